/- Lemmas that the last text rests on. Condition: each says its own. -/
import Derived.Test.YtjaocmocdhckaaaGreatDoorZMw7
set_option maxHeartbeats 16000000
set_option maxRecDepth 100000
namespace Go.Proofs.YtjaocmocdhckaaaGreatDoor
open Go.RowKit
section
section
variable {w0 w w' : World} {S : Nat → Prop} {a b : As} {Ls : List As}
theorem Mem.self2 (M : Mem w0 S (a :: b :: Ls) w) : Mem w (fun k => k ∈ a.fp ++ b.fp) [a, b] w :=
 Mem.self [a, b] M fun i x hi g hg => by
  match i, hi with
  | 0, hi => simp only [List.getElem?_cons_zero, Option.some.injEq] at hi; subst hi; exact List.mem_append_left _ hg
  | 1, hi => simp only [List.getElem?_cons_succ, List.getElem?_cons_zero, Option.some.injEq] at hi; subst hi; exact List.mem_append_right _ hg
theorem Mem.new2 (M : Mem w0 B0 (a :: b :: Ls) w) : ∀ g ∈ a.fp ++ b.fp, w0.heap.size ≤ g := fun g hg => by
 rcases List.mem_append.1 hg with h | h
 ·rcases (M.lt 0 a rfl g h).2 with h2 | h2
  ·exact h2
  ·exact h2.elim
 ·rcases (M.lt 1 b rfl g h).2 with h2 | h2
  ·exact h2
  ·exact h2.elim
theorem Mem.gone2 (M : Mem w0 S (a :: b :: Ls) w) (hf : Fr (fun k => k ∈ a.fp ++ b.fp) w w') : Mem w0 S Ls w' := by
 have up : ∀ (i : Nat) (x : As), Ls[i]? = some x → (a :: b :: Ls)[i + 2]? = some x := fun i x h => h
 have no : ∀ (i : Nat) (x : As), Ls[i]? = some x → ∀ g ∈ x.fp, ¬ g ∈ a.fp ++ b.fp := fun i x hi g hg h => by
  rcases List.mem_append.1 h with h | h
  ·exact M.apart 0 (i + 2) a x rfl (up i x hi) AM g h hg
  ·exact M.apart 1 (i + 2) b x rfl (up i x hi) AM g h hg
 refine ⟨?_, fun i x hi => ?_, fun i x hi g hg => ?_, fun i j x y hi hj hne => M.apart (i + 2) (j + 2) x y (up i x hi) (up j y hj) AM⟩
 ·have hin : ∀ g ∈ a.fp ++ b.fp, w0.heap.size ≤ g ∨ S g := fun g h => by
   rcases List.mem_append.1 h with h | h
   ·exact (M.lt 0 a rfl g h).2
   ·exact (M.lt 1 b rfl g h).2
  exact ⟨hf.os.trans M.fr.os, hf.tape.trans M.fr.tape, hf.output.trans M.fr.output, Nat.le_trans M.fr.size hf.size, fun k hk hn => (hf.block k (Nat.lt_of_lt_of_le hk M.fr.size) (fun h => by rcases hin k h with h2 | h2; omega; exact hn h2)).trans (M.fr.block k hk hn)⟩
 ·exact x.keep (fun g hg hl => hf.block g hl (no i x hi g hg)) (M.ok (i + 2) x (up i x hi))
 ·obtain ⟨h1, h2⟩ := M.lt (i + 2) x (up i x hi) g hg
  exact ⟨Nat.lt_of_lt_of_le h1 hf.size, h2⟩
end
end
open Tryz
def DO (m : Md) (c : CrA) (t : Tk) (via : List UInt8) : List UInt8 × List (List UInt8) × Bool := (if ((decide ((t.inc.toNat : Int) = (1 : Int))) && (decide (via = t.on))) = true then (via, [], true) else (if (((decide (((c.atf t.loc).kind.toNat : Int) = (4 : Int))) && (decide ((t.inc.toNat : Int) = (0 : Int)))) && (decide (via = t.loc))) = true then ((((c.outs via)[0]?).getD []), [(via ++ [33])], true) else (if (!(List.any (E7 m c t) (fun z => decide (via = z)))) = true then ([], [], false) else (if (decide (((c.atf via).kind.toNat : Int) = (9 : Int))) = true then ((((c.outs via)[0]?).getD []), [((via ++ [32]) ++ t.loc)], true) else ((((c.outs via)[0]?).getD []), [(via ++ [33])], true)))))
theorem kE (m : Md) (gc : Nat) (c : CrA) (F : List Nat) (t : Tk) (via : List UInt8) (w : World) (ho : MdOk m) (hC : CourseN w m gc c F) (hvl : via.length ≤ 4611686018427387903) (htl : t.loc.length ≤ 4611686018427387903) (hout : (via ∈ E7 m c t ∨ ((c.atf t.loc).kind.toNat = 4 ∧ via = t.loc)) → 0 < (c.outs via).length) :
 Calls prog 22 #[pg gc, .agg t.cells.toArray, str via] w fun e w' => ∃ A cf, e = .returned (.tuple #[str (DO m c t via).1, .slice A (DO m c t via).2.1.length cf, .bool (DO m c t via).2.2]) ∧ w'.ownsRow w.heap.size 9 1 (.slice A (DO m c t via).2.1.length cf) (DO m c t via).2.1.length (AH BY (DO m c t via).2.1) ∧ Fr0 w w' := by
 have hvL := TA ho hC t
 refine C5 func22 ntmps22 rfl fun M => srg (CR M rfl rfl fun g4 w1 hg4 M => BM rfl rfl (AY rfl (AF (CV 9 (fun w' => Mem w B0 [As.blk g4 43 (Tk.cells t)] w') CZ ?_))))
 have M := M.drew
 refine oc 0 9 rfl rfl M (oc 1 9 rfl rfl M (oc 2 9 rfl rfl M (ol 3 9 rfl rfl rfl M (fun _ M => (Blk.c ((hC.fr0 M.fr).blk) 5 rfl)) (oc 4 9 rfl rfl M (ol 5 9 rfl rfl rfl M (fun _ M => (M.cell 0 rfl rfl)) (oa 6 9 rfl rfl M (fun _ M => BT rfl rfl rfl underlying62 underlying9 B6 ((hC.fr0 M.fr).A) (hC.getA _)) (fon M 7 9 rfl rfl B6 fun g9 w2 hg9 M => fop M 8 0 rfl rfl rfl B2 rfl (·.drop 1) fun w3 M => fdn (AD (AF (AS (AQ rfl ?_)))))))))))
 refine BC M 1 rfl rfl rfl (CN rfl rfl (yb rfl (fvm M 5 [9, 4, 2, 0] [(26, .bool ((decide ((t.inc.toNat : Int) = (1 : Int))) && (decide (via = t.on))))] ?_ (fun k21 => ?_))))
 ·intro w4 M
  refine AY rfl (AL rfl (fun h17 => ?_) (fun h17 => ?_))
  ·refine srg ?_
   iterate 4 refine yb rfl ?_
   refine gnr (AN (AB (IY rfl rfl rfl rfl ?_)))
   have hE : DO m c t via = (via, [], true) := by rw [DO, if_pos h17]
   rw [hE]
   exact ⟨none, 0, rfl, World.ownsRow_nil _ _ _ _, M.fr⟩
  ·have h17p := ((DT h17).imp (fun z => (odf z)) (fun z => (odf z)))
   refine AQ rfl (BC M 0 rfl rfl rfl (CN rfl rfl (yb rfl (fvm M 4 [4, 2, 0] [(36, .bool ((decide (((c.atf t.loc).kind.toNat : Int) = (4 : Int))) && (decide ((t.inc.toNat : Int) = (0 : Int)))))] ?_ (fun k32 => ?_)))))
   ·intro w5 M
    refine yb rfl (fvm M 5 [4, 2, 0] [(42, .bool (((decide (((c.atf t.loc).kind.toNat : Int) = (4 : Int))) && (decide ((t.inc.toNat : Int) = (0 : Int)))) && (decide (via = t.loc))))] ?_ (fun k37 => ?_))
    ·intro w6 M
     refine AY rfl (AL rfl (fun h28 => ?_) (fun h28 => ?_))
     ·have h28p := (And.intro (And.intro (odt (CL (CL h28).1).1) (odt (CL (CL h28).1).2)) (odt (CL h28).2))
      have hz0 := hout (.inr ⟨by have := h28p.1.1; omega, h28p.2⟩)
      refine AQ rfl (BM rfl rfl (yl rfl rfl (Blk.c ((hC.fr0 M.fr).blk) 8 rfl) (yb rfl (ya rfl (BT rfl rfl rfl underlying64 underlying9 DH ((hC.fr0 M.fr).O) (hC.getO _)) ?_))))
      obtain ⟨z, hz⟩ := CC (l := (c.outs via)) (i := 0) AM
      obtain ⟨b_z, o_z, hA_z⟩ := BI (k := 1) AM ((hC.fr0 M.fr).rdO _) hz
      refine ya rfl (B1 0 hA_z rfl rfl rfl (sl rfl) AM) (yl rfl rfl (DQ E0 ((hC.fr0 M.fr).rdO _) hA_z hz 0 rfl) (yb rfl (ya rfl (GB rfl rfl rfl CX) (DF M (AA rfl) rfl rfl [str (via ++ [33])] ([str (via ++ [33])]) rfl rfl rfl rfl underlying36 D1 rfl rfl (HE rfl) rfl fun g53 w7 hg53 M => BM rfl rfl (yb rfl (gnr (AN (AB (IY rfl rfl rfl rfl ?_)))))))))
      have hE : DO m c t via = (z, [(via ++ [33])], true) := by rw [DO, AT h17, if_pos h28]; rw [hz]; rfl
      rw [hE]
      have M := M.blkOwn 0 (size := 1) (n := 1) rfl rfl (by unfold maxLen; omega)
      exact ⟨_, _, rfl, M.own 0 rfl, M.fr⟩
     ·have h28p := ((DT h28).imp (fun z => ((DT z).imp (fun z => (odf z)) (fun z => (odf z)))) (fun z => (odf z)))
      refine AQ rfl (CW M 1 rfl rfl underlying43 BD rfl (cl 57 rfl (AP rfl rfl call31) (Z7 m gc c F t _ ho (hC.fr0 M.fr)) ?_))
      rintro _ w8 ⟨A57, c57, rfl, how8, hfw8⟩
      refine ⟨_, rfl, ?_⟩
      have M := M.pushOwn hfw8 (Nat.le_refl _) how8
      have hL57 := M.ownLen 0 rfl
      refine yb rfl (D4 M 59 rfl rfl call59 (S8 A57 c57 (E7 m c t) via _ AM (M.rdOwn 0 rfl)) fun w9 M => yb rfl (AY rfl (AL rfl (fun h54 => ?_) (fun h54 => ?_))))
      ·refine AQ rfl (BM rfl rfl (gnr (AN (AB (IY rfl rfl rfl rfl ?_)))))
       have hE : DO m c t via = ([], [], false) := by rw [DO, AT h17, AT h28, if_pos h54]
       rw [hE]
       exact ⟨none, 0, rfl, World.ownsRow_nil _ _ _ _, M.fr⟩
      ·have h54p := (BQ h54)
       have hz0 := hout (.inl (by obtain ⟨z, hz, he⟩ := List.any_eq_true.1 (BQ h54); rw [odt he]; exact hz))
       refine AQ rfl (BM rfl rfl (yl rfl rfl (Blk.c ((hC.fr0 M.fr).blk) 5 rfl) (yb rfl (ya rfl (BT rfl rfl rfl underlying62 underlying9 B6 ((hC.fr0 M.fr).A) (hC.getA _)) (ya rfl (O2 (b := (c.atf via)) rfl rfl) (CN rfl rfl (AY rfl (AL rfl (fun h61 => ?_) (fun h61 => ?_)))))))))
       ·have h61p := (odt h61)
        refine AF (CV 15 (fun w' => Mem w B0 [As.own w.heap.size 9 1 (.slice A57 (E7 m c t).length c57) ((E7 m c t).length) (AH BY (E7 m c t)), As.blk g9 69 (El.cells (c.atf t.loc)), As.blk g4 43 (Tk.cells t)] w') CZ ?_)
        have M := M.drew
        refine oc 0 15 rfl rfl M (oc 1 15 rfl rfl M (oc 2 15 rfl rfl M (ol 3 15 rfl rfl rfl M (fun _ M => (Blk.c ((hC.fr0 M.fr).blk) 8 rfl)) (oc 4 15 rfl rfl M (oa 5 15 rfl rfl M (fun _ M => BT rfl rfl rfl underlying64 underlying9 DH ((hC.fr0 M.fr).O) (hC.getO _)) ?_)))))
        obtain ⟨z, hz⟩ := CC (l := (c.outs via)) (i := 0) AM
        obtain ⟨b_z, o_z, hA_z⟩ := BI (k := 1) AM ((hC.fr0 M.fr).rdO _) hz
        refine oa 6 15 rfl rfl M (fun _ M => B1 0 hA_z rfl rfl rfl (sl rfl) AM) (ol 7 15 rfl rfl rfl M (fun _ M => (DQ E0 ((hC.fr0 M.fr).rdO _) hA_z hz 0 rfl)) (oc 8 15 rfl rfl M (oa 9 15 rfl rfl M (fun _ M => GB rfl rfl rfl CX) (oc 10 15 rfl rfl M (ol 11 15 rfl rfl rfl M (fun _ M => (M.cell 2 rfl rfl)) (oa 12 15 rfl rfl M (fun _ M => GB rfl rfl rfl CX) (oc 14 15 rfl rfl M (BB 13 (some 83) gkr rfl (AA rfl) rfl rfl (fun ρ hρ => DR [str ((via ++ [32]) ++ t.loc)] _ hρ rfl rfl rfl rfl underlying36 D1 BU BU (HE rfl)) ?_))))))))
        rintro _ w10 ⟨g83, rfl, hg83, hq83, hb83, hfw10⟩
        replace hb83 : Blk w10 g83 9 ([str ((via ++ [32]) ++ t.loc)]) := hb83
        refine ⟨fun _ => M.step hfw10, ?_⟩
        have M := M.push hfw10 _ hb83 (EB hg83 hq83)
        replace M : Mem w B0 (As.blk g83 9 ([str ((via ++ [32]) ++ t.loc)]) :: _) w10 := M
        refine fo1 15 rfl rfl (yp rfl) (fo1 16 rfl rfl (yp rfl) (fdn (AD (BN (AN (AB (IY rfl rfl rfl rfl ?_)))))))
        have hE : DO m c t via = (z, [((via ++ [32]) ++ t.loc)], true) := by rw [DO, AT h17, AT h28, AT h54, if_pos h61]; rw [hz]; rfl
        rw [hE]
        have M := M.blkOwn 0 (size := 1) (n := 1) rfl rfl (by unfold maxLen; omega)
        exact ⟨_, _, rfl, M.own 0 rfl, M.fr⟩
       ·have h61p := (odf h61)
        refine AI (AE (AD (AQ rfl (BM rfl rfl (yl rfl rfl (Blk.c ((hC.fr0 M.fr).blk) 8 rfl) (yb rfl (ya rfl (BT rfl rfl rfl underlying64 underlying9 DH ((hC.fr0 M.fr).O) (hC.getO _)) ?_)))))))
        obtain ⟨z, hz⟩ := CC (l := (c.outs via)) (i := 0) AM
        obtain ⟨b_z, o_z, hA_z⟩ := BI (k := 1) AM ((hC.fr0 M.fr).rdO _) hz
        refine ya rfl (B1 0 hA_z rfl rfl rfl (sl rfl) AM) (yl rfl rfl (DQ E0 ((hC.fr0 M.fr).rdO _) hA_z hz 0 rfl) (yb rfl (ya rfl (GB rfl rfl rfl CX) (DF M (AA rfl) rfl rfl [str (via ++ [33])] ([str (via ++ [33])]) rfl rfl rfl rfl underlying36 D1 rfl rfl (HE rfl) rfl fun g94 w11 hg94 M => BM rfl rfl (yb rfl (gnr (IY rfl rfl rfl rfl ?_)))))))
        have hE : DO m c t via = (z, [(via ++ [33])], true) := by rw [DO, AT h17, AT h28, AT h54, AT h61]; rw [hz]; rfl
        rw [hE]
        have M := M.blkOwn 0 (size := 1) (n := 1) rfl rfl (by unfold maxLen; omega)
        exact ⟨_, _, rfl, M.own 0 rfl, M.fr⟩
    refine AO (d := 37) rfl (fun h37 => ?_) (fun h37 => ?_)
    ·exact gyq rfl (gyq rfl (CJ M 1 rfl rfl rfl (yd rfl (DM rfl rfl rfl) (yb rfl (k37 M ⟨rfl, rfl, rfl, (by rw [h37]; rfl), trivial⟩)))))
    ·iterate 4 refine yo rfl ?_
     exact yb rfl (k37 M ⟨rfl, rfl, rfl, (by rw [h37]; rfl), trivial⟩)
   refine AO (d := 32) rfl (fun h32 => ?_) (fun h32 => ?_)
   ·exact gyq rfl (CJ M 1 rfl rfl rfl (yd rfl (BZ rfl rfl rfl) (yb rfl (k32 M ⟨rfl, rfl, rfl, (by rw [h32]; rfl), trivial⟩))))
   ·exact yo rfl (yo rfl (yo rfl (yb rfl (k32 M ⟨rfl, rfl, rfl, (by rw [h32]; rfl), trivial⟩))))
 refine AO (d := 21) rfl (fun h21 => ?_) (fun h21 => ?_)
 ·exact gyq rfl (gyq rfl (CJ M 1 rfl rfl rfl (yd rfl (DM rfl rfl rfl) (yb rfl (k21 M ⟨rfl, rfl, rfl, rfl, (by rw [h21]; rfl), trivial⟩)))))
 ·iterate 4 refine yo rfl ?_
  exact yb rfl (k21 M ⟨rfl, rfl, rfl, rfl, (by rw [h21]; rfl), trivial⟩)
end Go.Proofs.YtjaocmocdhckaaaGreatDoor
