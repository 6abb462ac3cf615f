/- Lemmas that the last text rests on. Condition: each says its own. -/
import Derived.Test.YtaheakjfkpkefaaGreatDoorYRu2
set_option maxHeartbeats 16000000
set_option maxRecDepth 100000
namespace Go.Proofs.YtaheakjfkpkefaaGreatDoor
open Go.RowKit
open Tryz
def G6 (els : List El) : Nat → El → List (List UInt8)
 | 0, _ => []
 | f + 1, y => if y.inn = [] then [] else match B3 els y.inn with
  | none => []
  | some x => if x.kind.toNat = 10 then x.id :: G6 els f x else []
def AN (els : List El) (id : List UInt8) : List (List UInt8) := G6 els 64 ((B3 els id).getD zeroEl)
theorem VE (els : List El) {y : El} {n : Nat} (h1 : ¬ y.inn = []) (hn : n < 64) (h2 : (B3 els y.inn).isSome = true) (h3 : (((B3 els y.inn).getD zeroEl).kind.toNat : Int) = 10) : G6 els (64 - n) y = ((B3 els y.inn).getD zeroEl).id :: G6 els (64 - (n + 1)) ((B3 els y.inn).getD zeroEl) := by
 rw [show 64 - n = (64 - (n + 1)) + 1 by omega, G6, if_neg h1]
 cases hx : B3 els y.inn with
 | none => rw [hx] at h2; cases h2
 | some x =>
  rw [hx] at h3
  have h3' : x.kind.toNat = 10 := by simp only [Option.getD_some] at h3; omega
  simp only [if_pos h3', Option.getD_some]
theorem VD (els : List El) {y : El} {n : Nat} (h : (B3 els y.inn).isSome = false ∨ ¬ (((B3 els y.inn).getD zeroEl).kind.toNat : Int) = 10) : G6 els n y = [] := by
 cases n with
 | zero => rfl
 | succ n =>
  rw [G6]
  split
  ·rfl
  ·cases hx : B3 els y.inn with
   | none => rfl
   | some x =>
    rw [hx] at h
    simp only [Option.isSome_some, Bool.true_eq_false, Option.getD_some, false_or] at h
    simp only
    rw [if_neg A0]
theorem XJ (els : List El) {y : El} {n : Nat} (h : y.inn = [] ∨ ¬ (n : Int) < 64) : G6 els (64 - n) y = [] := by
 rcases h with h | h
 ·cases 64 - n with
  | zero => rfl
  | succ k => rw [G6, if_pos h]
 ·rw [show 64 - n = 0 by omega]; rfl
theorem PX (els : List El) : ∀ (n : Nat) (y : El), (G6 els n y).length ≤ n
 | 0, _ => Nat.le_refl _
 | n + 1, y => by
  rw [G6]
  split
  ·exact Nat.zero_le _
  ·split
   ·exact Nat.zero_le _
   ·split
    ·have := PX els n; simp only [List.length_cons]; exact Nat.succ_le_succ (this _)
    ·exact Nat.zero_le _
theorem LR (els : List El) (id : List UInt8) : (AN els id).length ≤ 64 := PX els 64 _
theorem TW (m : Md) (a : MdA) (ix : IxA) (gx : Nat) (id : List UInt8) (w : World) (_ho : MdOk m) (hx : IxAt w m a ix gx) :
 Calls prog 132 #[pg gx, str id] w fun e w' => ∃ A c, e = .returned (.slice A (AN m.els id).length c) ∧ w'.ownsRow w.heap.size 9 1 (.slice A (AN m.els id).length c) (AN m.els id).length (AB BK (AN m.els id)) ∧ Fr0 w w' := by
 refine BL func132 ntmps132 rfl fun M => srg (AG rfl (srg (AG rfl (sx_seq (AC rfl (yb rfl ?_))))))
 refine yb rfl (yl rfl rfl (Blk.c ((hx.fr0 M.fr).blk) 5 rfl) (yb rfl (ya rfl (BD rfl rfl rfl underlying85 underlying9 AQ ((hx.fr0 M.fr).E) (hx.getE _)) (CO M rfl AQ fun g6 w1 hg6 M => C2 M 0 rfl rfl AK rfl fun w2 M => nq (sx_block ?_)))))
 have M := M.nilOwn 9 1
 refine flp [0] (fun ze e wr mz => ∃ (y : El) (acc : List (List UInt8)) (A : Option Addr) (c : Nat) (gv : Nat), e = (5, .slice A acc.length c) :: (6, pg gv) :: ze ∧ Mem w AM [As.own w.heap.size 9 1 (.slice A acc.length c) acc.length (AB BK acc), As.blk gv 95 (El.cells y)] wr ∧ (acc.length ≤ 64) ∧ (AN m.els id = acc ++ G6 m.els (64 - acc.length) y) ∧ mz = 64 - acc.length) ⟨(B3 m.els id).getD zeroEl, [], none, 0, g6, rfl, M, Nat.zero_le _, rfl, rfl⟩ ?_
 rintro _ w3 _ ⟨y, acc, A, c, gv, rfl, M, hl, hr, rfl⟩
 refine sx_seq (AC rfl (B2 M 1 rfl rfl rfl (ya rfl (FV rfl rfl rfl) (yb rfl (fvm M 4 [6, 5, 0] [(22, .bool ((!decide (y.inn = [])) && (decide ((acc.length : Int) < 64))))] ?_ (fun k18 => ?_))))))
 ·intro w4 M
  refine nq (AF rfl (fun h22 => ?_) (fun h22 => ?_))
  ·have h22p := (And.intro (odf (BY (BX h22).1)) (odt (BX h22).2))
   refine sx_skip (qx_seq (sx_seq (sx_block (sx_seq (I6 M 13 CL fun M => oc 0 13 rfl rfl M (oc 1 13 rfl rfl M (oc 2 13 rfl rfl M (ol 3 13 rfl rfl rfl M (fun _ M => (Blk.c ((hx.fr0 M.fr).blk) 5 rfl)) (oc 4 13 rfl rfl M (ol 5 13 rfl rfl rfl M (fun _ M => (M.cell 1 rfl rfl)) (oa 6 13 rfl rfl M (fun _ M => DI rfl rfl rfl underlying85 underlying9 AQ ((hx.fr0 M.fr).E) (hx.getE _) (hx.isE _)) (oc 7 13 rfl rfl M (oc 8 13 rfl rfl M (oc 9 13 rfl rfl M ?_))))))))))))))
   refine fon M 10 7 rfl rfl AQ fun g7 w5 hg7 M => fop M 11 0 rfl rfl rfl AK rfl (·.drop 1) fun w6 M => oc 12 13 rfl rfl (M.drop 1) (fdn (qx_seq (sx_seq (AC rfl (AV rfl rfl (fvm M 4 [7, 6, 5, 0] [(39, .bool ((!(B3 m.els y.inn).isSome) || (!decide ((((B3 m.els y.inn).getD zeroEl).kind.toNat : Int) = 10))))] ?_ (fun k35 => ?_)))))))
   ·intro w7 M
    refine nq (AF rfl (fun h39 => ?_) (fun h39 => ?_))
    ·have h39p := ((E6 h39).imp (fun z => (BY z)) (fun z => (odf (BY z))))
     refine sx_exit (qx_then_exit (G2 rfl (qx_then_exit (qx_then_exit (qx_block_hit (qx_seq (AC rfl (yb rfl (gnr (gr1 rfl ?_))))))))))
     rw [VD m.els h39p, List.append_nil] at hr
     subst hr
     exact ⟨_, _, rfl, M.own 1 rfl, M.fr⟩
    ·have h39p := (And.intro (BJ (BT h39).1) (odt (BJ (BT h39).2)))
     refine sx_skip (qx_seq (AC rfl (yb rfl (B2 M 0 rfl rfl rfl (CU M (wn_none rfl) rfl rfl [str (((B3 m.els y.inn).getD zeroEl).id)] ([str (((B3 m.els y.inn).getD zeroEl).id)]) rfl rfl rfl rfl underlying48 CP rfl rfl (EZ rfl) rfl fun g43 w8 hg43 M => DC (len' := (acc ++ [((B3 m.els y.inn).getD zeroEl).id]).length) (xs' := AB BK (acc ++ [((B3 m.els y.inn).getD zeroEl).id])) M 2 (wn_none rfl) rfl rfl rfl rfl rfl rfl (M.rdBlk 0 rfl rfl) underlying48 CI rfl AU (BG rfl) (Nat.le_refl _) (Nat.le_refl _) CX (by unfold maxLen; first | omega | (simp only [List.length_append, List.length_cons, List.length_nil]; omega)) (by simp) (by simp [AB, BK]) fun A44 c44 w9 M => AG rfl (sx_region (DO M 1 rfl rfl underlying95 AK rfl ?_)))))))
     refine C2 M 3 rfl rfl AK rfl fun w10 M => sxl_nil (qx_block_normal (qx_seq (srg (DO M 3 rfl rfl underlying95 AK rfl (nq (sx_region (CO M rfl AQ fun g6 w11 hg6 M => C2 M 0 rfl rfl AK rfl fun w12 M => sxl_nil ?_)))))))
     have hlen := h22p.2
     refine fag ⟨((B3 m.els y.inn).getD zeroEl), acc ++ [((B3 m.els y.inn).getD zeroEl).id], A44, c44, g6, rfl, (M.pk [3, 0]), ?_, ?_, rfl⟩
     ·simp only [List.length_append, List.length_cons, List.length_nil]; omega
     ·rw [hr, VE m.els h22p.1 A0 h39p.1 h39p.2]; simp
   refine AD (d := 35) rfl (fun h35 => ?_) (fun h35 => ?_)
   ·exact yo rfl (yo rfl (yo rfl (yb rfl (k35 M ⟨rfl, rfl, rfl, rfl, (by rw [h35]; rfl), trivial⟩))))
   ·exact gyq rfl (C3 M 0 rfl rfl rfl (yd rfl (E1 rfl rfl rfl) (yb rfl (k35 M ⟨rfl, rfl, rfl, rfl, (by rw [h35]; rfl), trivial⟩))))
  ·have h22p := ((DA h22).imp (fun z => (odt (BJ z))) (fun z => (odf z)))
   refine sx_exit (qx_then_exit (qx_then_exit (qx_block_hit (qx_seq (AC rfl (yb rfl (gnr (gr1 rfl ?_))))))))
   rw [XJ m.els h22p, List.append_nil] at hr
   subst hr
   exact ⟨_, _, rfl, M.own 0 rfl, M.fr⟩
 refine AD (d := 18) rfl (fun h18 => ?_) (fun h18 => ?_)
 ·exact gyq rfl (yd rfl (F5 rfl rfl (sl rfl)) (yd rfl (EQ rfl rfl rfl) (yb rfl (k18 M ⟨rfl, rfl, rfl, (by rw [h18]; rfl), trivial⟩))))
 ·exact yo rfl (yo rfl (yo rfl (yb rfl (k18 M ⟨rfl, rfl, rfl, (by rw [h18]; rfl), trivial⟩))))
def NS (m : Md) (b y : El) : Bool := (if (decide ((y.kind.toNat : Int) = (6 : Int))) = true then ((AN m.els y.id).any (fun z => decide (b.id = z))) else false)
theorem Y1 (m : Md) (a : MdA) (ix : IxA) (gx gp : Nat) (b : El) (gb : Nat) (y : El) (w : World) (ho : MdOk m) (hx : IxAt w m a ix gx) (hp : Blk w gp 155 [pg gx]) (hb : Blk w gb 95 b.cells) :
 Calls prog 131 #[.agg y.cells.toArray, pg gp, pg gb] w (BN w (.bool (NS m b y))) := by
 refine BL func131 ntmps131 rfl fun M => srg (DD M rfl rfl fun g3 w1 hg3 M => AG rfl (sx_seq (I6 M 13 CL fun M => oc 0 13 rfl rfl M (ol 1 13 rfl rfl rfl M (fun _ M => (M.cell 0 rfl rfl)) (oa 2 13 rfl rfl M (fun _ M => BO rfl rfl rfl) (oc 3 13 rfl rfl M (D7 (d := 8) rfl (fun h8 => ?_) (fun h8 => ?_))))))))
 ·have h8p := (odt h8)
  refine ob 4 13 rfl (wn_on rfl rfl rfl) rfl rfl M (fun _ M => B9 rfl rfl (sc rfl) (Blk.c (hp.fr0 M.fr) 0 rfl)) (ob 5 13 rfl (wn_on rfl rfl rfl) rfl rfl M (fun _ M => yp rfl) (ob 6 13 rfl (wn_on rfl rfl rfl) rfl rfl M (fun _ M => B9 rfl rfl (sc rfl) (M.cell 0 rfl rfl)) (ob 8 13 rfl (wn_on rfl rfl rfl) rfl rfl M (fun _ M => yp rfl) (ob 9 13 rfl (wn_on rfl rfl rfl) rfl rfl M (fun _ M => B9 rfl rfl (sc rfl) (Blk.c (hb.fr0 M.fr) 0 rfl)) (C5 7 (some 12) gkr rfl (wn_on rfl rfl rfl) rfl rfl (AE rfl rfl call132) (TW m a ix gx _ _ ho (hx.fr0 M.fr)) ?_)))))
  rintro _ w2 ⟨A12, c12, rfl, how2, hfw2⟩
  refine ⟨_, rfl, fun _ => M.step hfw2, ?_⟩
  have M := M.pushOwn hfw2 (Nat.le_refl _) how2
  have hL12 := M.ownLen 0 rfl
  refine C5 10 (some 15) gkr rfl (wn_on rfl rfl rfl) rfl rfl (AE rfl rfl call51) (XB _ _ (AN m.els y.id) _ _ (by have hL := M.ownLen 0 rfl; have := LR m.els y.id; omega) (M.rdOwn 0 rfl)) ?_
  rintro _ w3 ⟨rfl, hfw3⟩
  refine ⟨_, rfl, fun _ => (M.drop 1).step hfw3, ?_⟩
  have M := M.step hfw3
  exact oc 11 13 rfl rfl (M.drop 1) (oc 12 13 rfl rfl (M.drop 1) (fdn (qx_seq (sx_ret (gr1 rfl ⟨by rw [NS, if_pos h8], M.fr⟩)))))
 ·exact B5 4 13 rfl M (B5 5 13 rfl M (B5 6 13 rfl M (B5 7 13 rfl M (B5 8 13 rfl M (B5 9 13 rfl M (B5 10 13 rfl M (oc 11 13 rfl rfl M (oc 12 13 rfl rfl M (fdn (qx_seq (sx_ret (gr1 rfl ⟨by rw [NS, AS h8], M.fr⟩))))))))))))
def K5 (m : Md) (y : El) : Bool := (if (!decide ((y.kind.toNat : Int) = (9 : Int))) = true then true else (if ((!(B3 m.els y.att).isSome) || (!decide (((B3 m.els y.att).getD zeroEl).inn = y.inn))) = true then false else (if ((decide ((((B3 m.els y.att).getD zeroEl).kind.toNat : Int) = (3 : Int))) || (decide ((((B3 m.els y.att).getD zeroEl).kind.toNat : Int) = (4 : Int)))) = true then true else (if ((!decide ((((B3 m.els y.att).getD zeroEl).kind.toNat : Int) = (10 : Int))) || (decide ((y.ev.toNat : Int) = (1 : Int)))) = true then false else (!(m.els.any (NS m ((B3 m.els y.att).getD zeroEl))))))))
theorem bX (m : Md) (a : MdA) (ix : IxA) (gx gp : Nat) (y : El) (w : World) (oy : ElOk y) (ho : MdOk m) (hx : IxAt w m a ix gx) (hp : Blk w gp 155 [pg gx]) :
 Calls prog 129 #[.agg y.cells.toArray, pg gp] w (BN w (.bool (K5 m y))) := by
 have oy3 := oy.ref
 have oy4 := oy.key
 have oy5 := oy.id
 have oy6 := oy.nm
 have oy7 := oy.inn
 have oy8 := oy.att
 refine BL func129 ntmps129 rfl fun M => srg (DD M rfl rfl fun g2 w1 hg2 M => AG rfl (sx_seq (I6 M 13 CL fun M => ol 0 13 rfl rfl rfl M (fun _ M => (Blk.c (hp.fr0 M.fr) 0 rfl)) (oc 1 13 rfl rfl M (oc 2 13 rfl rfl M (ol 3 13 rfl rfl rfl M (fun _ M => (Blk.c ((hx.fr0 M.fr).blk) 5 rfl)) (oc 4 13 rfl rfl M (ol 5 13 rfl rfl rfl M (fun _ M => (M.cell 0 rfl rfl)) ?_))))))))
 refine oa 6 13 rfl rfl M (fun _ M => DI rfl rfl rfl underlying85 underlying9 AQ ((hx.fr0 M.fr).E) (hx.getE _) (hx.isE _)) (oc 7 13 rfl rfl M (oc 8 13 rfl rfl M (oc 9 13 rfl rfl M (fon M 10 4 rfl rfl AQ fun g4 w2 hg4 M => fop M 11 0 rfl rfl rfl AK rfl (·.drop 1) fun w3 M => oc 12 13 rfl rfl (M.drop 1) (fdn (qx_seq (sx_seq (sx_block (AC rfl (B2 M 1 rfl rfl rfl (FT rfl rfl ?_)))))))))))
 refine AG rfl (AF rfl (fun h16 => ?_) (fun h16 => ?_))
 ·exact AC rfl (gnr (qx_block_ret (qx_then_ret (gr1 rfl ⟨by rw [K5, if_pos h16], M.fr⟩))))
 ·have h16p := (odt (BJ h16))
  refine AC rfl (AV rfl rfl (fvm M 6 [4, 2, 1] [(29, .bool ((!(B3 m.els y.att).isSome) || (!decide (((B3 m.els y.att).getD zeroEl).inn = y.inn))))] ?_ (fun k23 => ?_)))
  ·intro w4 M
   refine AG rfl (AF rfl (fun h20 => ?_) (fun h20 => ?_))
   ·have h20p := ((E6 h20).imp (fun z => (BY z)) (fun z => (odf (BY z))))
    exact AC rfl (gnr (qx_block_ret (qx_then_ret (gr1 rfl ⟨by rw [K5, AS h16, if_pos h20], M.fr⟩))))
   ·have h20p := (And.intro (BJ (BT h20).1) (odt (BJ (BT h20).2)))
    refine AC rfl (B2 M 0 rfl rfl rfl (C7 rfl rfl (yb rfl (fvm M 4 [4, 2, 1] [(38, .bool ((decide ((((B3 m.els y.att).getD zeroEl).kind.toNat : Int) = 3)) || (decide ((((B3 m.els y.att).getD zeroEl).kind.toNat : Int) = 4))))] ?_ (fun k34 => ?_)))))
    ·intro w5 M
     refine AG rfl (AF rfl (fun h30 => ?_) (fun h30 => ?_))
     ·have h30p := ((E6 h30).imp (fun z => (odt z)) (fun z => (odt z)))
      exact AC rfl (gnr (qx_block_ret (qx_then_ret (gr1 rfl ⟨by rw [K5, AS h16, AS h20, if_pos h30], M.fr⟩))))
     ·have h30p := (And.intro (odf (BT h30).1) (odf (BT h30).2))
      refine AC rfl (B2 M 0 rfl rfl rfl (FT rfl rfl (yb rfl (fvm M 4 [4, 1] [(47, .bool ((!decide ((((B3 m.els y.att).getD zeroEl).kind.toNat : Int) = 10)) || (decide ((y.ev.toNat : Int) = 1))))] ?_ (fun k43 => ?_)))))
      ·intro w6 M
       refine AG rfl (AF rfl (fun h39 => ?_) (fun h39 => ?_))
       ·have h39p := ((E6 h39).imp (fun z => (odf (BY z))) (fun z => (odt z)))
        exact AC rfl (gnr (qx_block_ret (qx_then_ret (gr1 rfl ⟨by rw [K5, AS h16, AS h20, AS h30, if_pos h39], M.fr⟩))))
       ·have h39p := (And.intro (odt (BJ (BT h39).1)) (odf (BT h39).2))
        refine sx_skip (qx_block_normal (qx_seq (srg (yl rfl rfl (Blk.c (hp.fr0 M.fr) 0 rfl) (AV rfl rfl (yb rfl (yl rfl rfl (Blk.c ((hx.fr0 M.fr).blk) 3 rfl) (ya rfl (CE (us := []) (vs := [pg gp, pg g4]) rfl rfl rfl) (DV M 54 rfl rfl call130 (pM _ _ m.els (by have := FH m.fls; have := DR m.fls; have := ho.nfls; have := ho.nels; have := ho.nvars; first | omega | exact Nat.le_trans (FH _ _) A0 | exact Nat.le_trans (DR _ _) A0) 131 [pg gp, pg g4] (NS m ((B3 m.els y.att).getD zeroEl)) _ (G3 call131 (fun z hz w9 hf9 => Y1 m a ix gx gp ((B3 m.els y.att).getD zeroEl) _ z w9 ho ((hx.fr0 M.fr).fr0 hf9) ((hp.fr0 M.fr).fr0 hf9) ((M.blk 0 rfl).fr0 hf9))) (M.rd hx.md.els)) fun w7 M => yb rfl (AG rfl ?_))))))))))
        exact sx_ret (gr1 rfl ⟨by rw [K5, AS h16, AS h20, AS h30, AS h39], M.fr⟩)
      refine AD (d := 43) rfl (fun h43 => ?_) (fun h43 => ?_)
      ·exact yo rfl (yo rfl (yo rfl (yb rfl (k43 M ⟨rfl, rfl, (by rw [h43]; rfl), trivial⟩))))
      ·exact gyq rfl (C3 M 1 rfl rfl rfl (yd rfl (BO rfl rfl rfl) (yb rfl (k43 M ⟨rfl, rfl, (by rw [h43]; rfl), trivial⟩))))
    refine AD (d := 34) rfl (fun h34 => ?_) (fun h34 => ?_)
    ·exact yo rfl (yo rfl (yo rfl (yb rfl (k34 M ⟨rfl, rfl, rfl, (by rw [h34]; rfl), trivial⟩))))
    ·exact gyq rfl (C3 M 0 rfl rfl rfl (yd rfl (BO rfl rfl rfl) (yb rfl (k34 M ⟨rfl, rfl, rfl, (by rw [h34]; rfl), trivial⟩))))
  refine AD (d := 23) rfl (fun h23 => ?_) (fun h23 => ?_)
  ·iterate 5 refine yo rfl ?_
   exact yb rfl (k23 M ⟨rfl, rfl, rfl, (by rw [h23]; rfl), trivial⟩)
  ·exact gyq rfl (C3 M 0 rfl rfl rfl (gyq rfl (C3 M 1 rfl rfl rfl (yd rfl (FV rfl rfl rfl) (yb rfl (k23 M ⟨rfl, rfl, rfl, (by rw [h23]; rfl), trivial⟩))))))
def J9 (r : Option (List UInt8)) : Value := .tuple #[str (r.getD []), .bool r.isSome]
def ffE (p : El → Bool) (l : List El) : Option (List UInt8) := (ffN (fun _ => p) 0 l).map (·.id)
def ffF (p : Fl → Bool) (l : List Fl) : Option (List UInt8) := (ffN (fun _ => p) 0 l).map (·.id)
theorem RY (p : El → Bool) (l : List El) : Value.tuple #[str ((ffN (fun _ => p) 0 l).elim [] (fun x => x.id)), .bool (ffN (fun _ => p) 0 l).isSome] = J9 (ffE p l) := by unfold J9 ffE; cases ffN (fun _ => p) 0 l <;> rfl
theorem kR (p : Fl → Bool) (l : List Fl) : Value.tuple #[str ((ffN (fun _ => p) 0 l).elim [] (fun x => x.id)), .bool (ffN (fun _ => p) 0 l).isSome] = J9 (ffF p l) := by unfold J9 ffF; cases ffN (fun _ => p) 0 l <;> rfl
theorem mK (m : Md) (a : MdA) (ix : IxA) (gx : Nat) (w : World) (ho : MdOk m) (hx : IxAt w m a ix gx) :
 Calls prog 67 #[pg gx] w (BN w (J9 (ffE (U8 m) m.els))) := by
 refine BL func67 ntmps67 rfl fun M => srg (DB M (wn_none rfl) rfl rfl 155 rfl rfl ([pg gx]) rfl fun g1 w1 hg1 M => yb rfl (AG rfl (srg (B2 M 0 rfl rfl rfl (AV rfl rfl (yb rfl (yl rfl rfl (Blk.c ((hx.fr0 M.fr).blk) 3 rfl) ?_)))))))
 refine ya rfl (CE (us := []) (vs := [pg g1]) rfl rfl rfl) (DV M 10 rfl rfl call110 (IA _ _ m.els (by have := ho.nfls; have := ho.nels; have := ho.nvars; omega) 116 [pg g1] (U8 m) _ (G3 call116 (fun z hz w9 hf9 => mL m a ix gx _ z w9 (ho.els z hz) ho ((hx.fr0 M.fr).fr0 hf9) ((M.blk 0 rfl).fr0 hf9))) (M.rd hx.md.els)) fun w2 M => ?_)
 iterate 4 refine yb rfl ?_
 exact gnr (BS rfl rfl rfl ⟨congrArg Ending.returned (RY _ _), M.fr⟩)
theorem bL (m : Md) (a : MdA) (ix : IxA) (gx : Nat) (w : World) (ho : MdOk m) (hx : IxAt w m a ix gx) :
 Calls prog 68 #[pg gx] w (BN w (J9 (ffF (KW m) m.fls))) := by
 refine BL func68 ntmps68 rfl fun M => srg (DB M (wn_none rfl) rfl rfl 155 rfl rfl ([pg gx]) rfl fun g1 w1 hg1 M => yb rfl (AG rfl (srg (B2 M 0 rfl rfl rfl (AV rfl rfl (yb rfl (yl rfl rfl (Blk.c ((hx.fr0 M.fr).blk) 4 rfl) ?_)))))))
 refine ya rfl (CE (us := []) (vs := [pg g1]) rfl rfl rfl) (DV M 10 rfl rfl call113 (TP _ _ m.fls (by have := ho.nfls; have := ho.nels; have := ho.nvars; omega) 118 [pg g1] (KW m) _ (G3 call118 (fun z hz w9 hf9 => bM m a ix gx _ z w9 ho ((hx.fr0 M.fr).fr0 hf9) ((M.blk 0 rfl).fr0 hf9))) (M.rd hx.md.fls)) fun w2 M => ?_)
 iterate 4 refine yb rfl ?_
 exact gnr (BS rfl rfl rfl ⟨congrArg Ending.returned (kR _ _), M.fr⟩)
theorem kG (m : Md) (a : MdA) (ix : IxA) (gx : Nat) (w : World) (ho : MdOk m) (hx : IxAt w m a ix gx) :
 Calls prog 69 #[pg gx] w (BN w (J9 (ffE (J3 m) m.els))) := by
 refine BL func69 ntmps69 rfl fun M => srg (DB M (wn_none rfl) rfl rfl 155 rfl rfl ([pg gx]) rfl fun g1 w1 hg1 M => yb rfl (AG rfl (srg (B2 M 0 rfl rfl rfl (AV rfl rfl (yb rfl (yl rfl rfl (Blk.c ((hx.fr0 M.fr).blk) 3 rfl) ?_)))))))
 refine ya rfl (CE (us := []) (vs := [pg g1]) rfl rfl rfl) (DV M 10 rfl rfl call110 (IA _ _ m.els (by have := ho.nfls; have := ho.nels; have := ho.nvars; omega) 119 [pg g1] (J3 m) _ (G3 call119 (fun z hz w9 hf9 => dR m a ix gx _ z w9 (ho.els z hz) ho ((hx.fr0 M.fr).fr0 hf9) ((M.blk 0 rfl).fr0 hf9))) (M.rd hx.md.els)) fun w2 M => ?_)
 iterate 4 refine yb rfl ?_
 exact gnr (BS rfl rfl rfl ⟨congrArg Ending.returned (RY _ _), M.fr⟩)
theorem bW (m : Md) (a : MdA) (ix : IxA) (gx : Nat) (w : World) (ho : MdOk m) (hx : IxAt w m a ix gx) :
 Calls prog 72 #[pg gx] w (BN w (J9 (ffE (K5 m) m.els))) := by
 refine BL func72 ntmps72 rfl fun M => srg (DB M (wn_none rfl) rfl rfl 155 rfl rfl ([pg gx]) rfl fun g1 w1 hg1 M => yb rfl (AG rfl (srg (B2 M 0 rfl rfl rfl (AV rfl rfl (yb rfl (yl rfl rfl (Blk.c ((hx.fr0 M.fr).blk) 3 rfl) ?_)))))))
 refine ya rfl (CE (us := []) (vs := [pg g1]) rfl rfl rfl) (DV M 10 rfl rfl call110 (IA _ _ m.els (by have := ho.nfls; have := ho.nels; have := ho.nvars; omega) 129 [pg g1] (K5 m) _ (G3 call129 (fun z hz w9 hf9 => bX m a ix gx _ z w9 (ho.els z hz) ho ((hx.fr0 M.fr).fr0 hf9) ((M.blk 0 rfl).fr0 hf9))) (M.rd hx.md.els)) fun w2 M => ?_)
 iterate 4 refine yb rfl ?_
 exact gnr (BS rfl rfl rfl ⟨congrArg Ending.returned (RY _ _), M.fr⟩)
theorem dX (m : Md) (a : MdA) (ix : IxA) (gx : Nat) (w : World) (ho : MdOk m) (hx : IxAt w m a ix gx) :
 Calls prog 73 #[pg gx] w (BN w (J9 (ffE (N1 m) m.els))) := by
 refine BL func73 ntmps73 rfl fun M => srg (DB M (wn_none rfl) rfl rfl 155 rfl rfl ([pg gx]) rfl fun g1 w1 hg1 M => yb rfl (AG rfl (srg (B2 M 0 rfl rfl rfl (AV rfl rfl (yb rfl (yl rfl rfl (Blk.c ((hx.fr0 M.fr).blk) 3 rfl) ?_)))))))
 refine ya rfl (CE (us := []) (vs := [pg g1]) rfl rfl rfl) (DV M 10 rfl rfl call110 (IA _ _ m.els (by have := ho.nfls; have := ho.nels; have := ho.nvars; omega) 133 [pg g1] (N1 m) _ (G3 call133 (fun z hz w9 hf9 => dY m a ix gx _ z w9 (ho.els z hz) ho ((hx.fr0 M.fr).fr0 hf9) ((M.blk 0 rfl).fr0 hf9))) (M.rd hx.md.els)) fun w2 M => ?_)
 iterate 4 refine yb rfl ?_
 exact gnr (BS rfl rfl rfl ⟨congrArg Ending.returned (RY _ _), M.fr⟩)
end Go.Proofs.YtaheakjfkpkefaaGreatDoor
