/- Lemmas that the last text rests on. Condition: each says its own. -/
import Derived.Test.YtjaocmocdhckaaaGreatDoorZMw12
set_option maxHeartbeats 16000000
set_option maxRecDepth 100000
namespace Go.Proofs.YtjaocmocdhckaaaGreatDoor
open Go.RowKit
open Tryz
def smW : Wt := ⟨[117], 0, [], [], 0⟩
theorem l6 : BdOk [] := ⟨by decide, fun x hx => (by cases hx), fun x hx => (by cases hx)⟩
theorem lC {e : Env} {w : World} {o : Oper} {t' : Nat} {x y : Operand} {a b : Tk} (ho : o.op = .binOp .neq 43 x y t') (hx : ev e x = some (.agg a.cells.toArray)) (hy : ev e y = some (.agg b.cells.toArray)) : Y prog e o w (.bool (!(a.same b))) := fun ρ h => by
 have h1 : ρ x = .agg a.cells.toArray := h _ _ hx
 have h2 : ρ y = .agg b.cells.toArray := h _ _ hy
 have hg := run_eqGuard_agg (P := prog) w .neq 43 x y a.cells.toArray b.cells.toArray VU
 unfold execOp
 simp only [ho, h1, h2, Sem.run_bind, hg, Result.andThen_ok, run_neq_struct, eY a b]
 rfl
theorem pG {e : Env} {w : World} {o : Oper} {t' : Nat} {x y : Operand} {a b : Wt} (ho : o.op = .binOp .eql 54 x y t') (hx : ev e x = some (.agg a.cells.toArray)) (hy : ev e y = some (.agg b.cells.toArray)) : Y prog e o w (.bool (a.same b)) := fun ρ h => by
 have h1 : ρ x = .agg a.cells.toArray := h _ _ hx
 have h2 : ρ y = .agg b.cells.toArray := h _ _ hy
 have hg := run_eqGuard_agg (P := prog) w .eql 54 x y a.cells.toArray b.cells.toArray eF
 unfold execOp
 simp only [ho, h1, h2, Sem.run_bind, hg, Result.andThen_ok, run_eql_struct, pH a b]
 rfl
theorem R8 (l : List (List UInt8)) (A B : Option Addr) (c d : Nat) (w : World) (hl : l.length ≤ 1000000) (hA : Rd w A (l.length * 1) (AH BY l)) (hB : Rd w B (l.length * 1) (AH BY l)) :
 Calls prog 14 #[.slice A l.length c, .slice B l.length d] w (CG w (.bool true)) :=
 (eZ l l A B c d w hl hA hB).mono fun e w' ⟨h, hf⟩ => ⟨by rw [h, decide_eq_true rfl], hf⟩
theorem rK (a : MdA) (w : World) (hM : MdIn w smM a) (hY : Lay0 w) : Calls prog 7 #[.agg (Md.cells smM a).toArray] w fun e w' => ∃ gc c F, e = .returned (.tuple #[pg gc, AJ 0]) ∧ CourseN w' smM gc c F ∧ Fr0 w w' :=
 (iF smM a w ZI hM hY).mono fun e w' ⟨h, hf⟩ => by
  rcases h with ⟨_, gc, c, F, h1, h2, _⟩ | ⟨h, _⟩
  ·exact ⟨gc, c, F, h1, h2, hf⟩
  ·rw [fU] at h; cases h
theorem mB (gc : Nat) (c : CrA) (F : List Nat) (w : World) (hC : CourseN w smM gc c F) (hY : Lay0 w) :
 Calls prog 13 #[pg gc, .slice none 0 0, AJ 0, AJ 5] w fun e w' => ∃ V vc T tc A fc, e = .returned (.tuple #[.agg #[AJ 1, str [112], .int .u8 1, .slice V 0 vc, .slice T 1 tc, AJ 2, .slice A 2 fc], AJ 0]) ∧ Rd w' T (1 * 9) (AH Tk.cells [smT]) ∧ Rd w' A (2 * 1) (AH BY [[115], [117, 43]]) ∧ Fr0 w w' :=
 (kY smM gc c F [] none 0 0 5 w ZI oS hC l6 OK hY).mono fun e w' ⟨hf, h⟩ => by
  rcases h with ⟨_, h⟩ | ⟨_, x, hx, hk, _, h⟩
  ·rw [show l0 smM [] 0 5 = true from rfl] at h; cases h
  ·obtain ⟨V, vc, T, tc, A, fc, h1, h2, h3⟩ := fV hC.cz hx hk (h w' fun _ _ _ => rfl)
   exact ⟨V, vc, T, tc, A, fc, h1, h2, h3, hf⟩
theorem mA (gc : Nat) (c : CrA) (F : List Nat) (w : World) (hC : CourseN w smM gc c F) :
 Calls prog 11 #[pg gc, .slice none 0 0, .agg smT.cells.toArray] w fun e w' => ∃ A c', e = .returned (.tuple #[.slice A 1 c', AJ 0]) ∧ w'.ownsRow w.heap.size 54 5 (.slice A 1 c') 1 (AH Wt.cells [smW]) ∧ Fr0 w w' :=
 (eJ smM gc c F smT none 0 [] w ZI hC BU OK).mono fun e w' ⟨A, c', h1, h2, hf⟩ => by
  rw [(m9 hC.cz).2.1] at h1 h2
  exact ⟨A, c', h1, h2, hf⟩
theorem pR (gc : Nat) (c : CrA) (F : List Nat) (V T : Option Addr) (vc tc : Nat) (w : World) (hC : CourseN w smM gc c F) (hT : Rd w T (1 * 9) (AH Tk.cells [smT])) (hY : Lay0 w) :
 Calls prog 8 #[pg gc, .agg #[AJ 1, str [112], .int .u8 1, .slice V 0 vc, .slice T 1 tc], AJ 2, str [117], AJ 2, AJ 6] w fun e w' => ∃ V vc T tc A fc, e = .returned (.tuple #[.agg #[AJ 1, str [112], .int .u8 2, .slice V 0 vc, .slice T 0 tc, AJ 2, .slice A 2 fc], AJ 0]) ∧ Rd w' A (2 * 1) (AH BY [[117, 33], [101]]) ∧ Fr0 w w' :=
 (aI smM gc c F smI V T vc tc 2 [117] 2 6 w ZI oS hC BU l6 (fun t ht => by
  obtain rfl : t = smT := by simpa [smI] using ht
  decide) BU OK hT hY).mono fun e w' ⟨hf, h⟩ => by
  have hs := m9 hC.cz
  rcases h with ⟨_, h⟩ | ⟨j, y, ⟨_, _, hy, _⟩, h⟩
  ·exact absurd ⟨hs.1, rfl, rfl, by rw [hs.2.2.1]⟩ (h 0 smT)
  ·obtain ⟨V, vc, T, tc, A, fc, h1, h2⟩ := m8 hC.cz hy (h w' fun _ _ _ => rfl)
   exact ⟨V, vc, T, tc, A, fc, h1, h2, hf⟩
theorem T3 (a0 : List UInt8) : prog.built 54 [(0, str a0)] = some #[str a0, .int .u8 0, str [], str [], AJ 0] := by kernel_rfl
theorem QZ (w : World) (hY : Lay0 w) :
 Calls prog 5 #[] w (CG w (.bool true)) := by
 have hfw : Fr0 w w := Fr.refl
 refine C5 func5 ntmps5 rfl fun M => srg (AY rfl (srg (cl 8 rfl (AP rfl rfl call12) (fT _) ?_)))
 rintro _ w ⟨sa, rfl, hMi, hfq⟩
 refine ⟨_, rfl, ?_⟩
 replace hfq := M.fr.trans hfq
 replace hfw := hfw.trans hfq
 replace hY := hY.fr0 hfq
 have M := NP w
 refine cl 9 rfl (AP rfl rfl call7) (rK sa _ hMi hY) ?_
 rintro _ w ⟨gc, c, F, rfl, hC, hfq⟩
 refine ⟨_, rfl, ?_⟩
 replace hfq := M.fr.trans hfq
 replace hfw := hfw.trans hfq
 replace hY := hY.fr0 hfq
 replace hMi := hMi.fr0 hfq
 have M := NP w
 iterate 5 refine yb rfl ?_
 refine nq (AF (AQ rfl (DA rfl rfl (yb rfl (gyq rfl (yd rfl (J5 rfl rfl rfl (pt rfl)) (AY rfl (D8 rfl (AI (AD ?_))))))))))
 refine AQ rfl (cl 20 rfl (AP rfl rfl call13) (mB gc c F _ (hC.fr0 M.fr) (hY.fr0 M.fr)) ?_)
 rintro _ w ⟨V, vc, T, tc, A, fc, rfl, hT, hA, hfq⟩
 refine ⟨_, rfl, ?_⟩
 replace hfq := M.fr.trans hfq
 replace hfw := hfw.trans hfq
 replace hY := hY.fr0 hfq
 replace hMi := hMi.fr0 hfq
 replace hC := hC.fr0 hfq
 have M := NP w
 refine BM rfl rfl (yb rfl (DC M rfl G4 fun g3 w1 hg3 M => C4 M 0 rfl rfl C6 rfl fun w2 M => AY rfl (AF (AQ rfl (DA rfl rfl (yb rfl ?_))))))
 refine gyq rfl (CJ M 0 rfl rfl rfl (yd rfl (E4 rfl rfl rfl) (BM rfl rfl (gyq rfl (gyq rfl (CJ M 0 rfl rfl rfl (yd rfl (C3 rfl rfl (sl rfl)) (yd rfl (E4 rfl rfl rfl) (BM rfl rfl (gyq rfl (gyq rfl (CJ M 0 rfl rfl rfl ?_))))))))))))
 obtain ⟨b2_smT, o2_smT, hA2_smT⟩ := BI (k := 9) AM (hT.fr0 M.fr) (show [smT][0]? = some smT from rfl)
 refine yd rfl (B1 0 hA2_smT rfl rfl rfl (sl rfl) AM) (yd rfl (AU rfl rfl (BV Tk.len (hT.fr0 M.fr) hA2_smT (show [smT][0]? = some smT from rfl)) underlying43 rfl BD) (yd rfl (BA (parts := [(0, _), (1, _), (3, _)]) rfl rfl (JI _ _ _)) (yd rfl (lC (a := smT) (b := smT) rfl rfl rfl) (BM rfl rfl (gyq rfl (CJ M 0 rfl rfl rfl (DF M (BG rfl rfl rfl) rfl rfl [str [115], str [117, 43]] ([str [115], str [117, 43]]) rfl rfl rfl rfl underlying36 D1 rfl rfl (by intro v hv; simp only [List.mem_cons, List.not_mem_nil, or_false] at hv; rcases hv with rfl | rfl <;> rfl) rfl fun g49 w3 hg49 M => B3 (some 50) (BG rfl rfl rfl) rfl rfl (AP rfl rfl call14) (R8 [[115], [117, 43]] A (some ⟨g49, 0, none⟩) fc 2 _ BU (hA.fr0 M.fr) (M.rdBlk 0 rfl rfl)) ?_)))))))
 rintro _ w4 ⟨rfl, hfw4⟩
 refine ⟨_, rfl, ?_⟩
 have M := M.step hfw4
 refine gyq rfl (AY rfl (D8 rfl (AI (AD (AQ rfl (BM rfl rfl (BC M 1 rfl rfl rfl (ya rfl (B1 0 hA2_smT rfl rfl rfl (sl rfl) AM) (ya rfl (AU rfl rfl (BV Tk.len (hT.fr0 M.fr) hA2_smT (show [smT][0]? = some smT from rfl)) underlying43 rfl BD) (cl 60 rfl (AP rfl rfl call11) (mA gc c F _ (hC.fr0 M.fr)) ?_))))))))))
 rintro _ w5 ⟨Aw, wc, rfl, how5, hfw5⟩
 refine ⟨_, rfl, ?_⟩
 have M := M.pushOwn hfw5 (Nat.le_refl _) how5
 iterate 5 refine yb rfl ?_
 refine nq (AQ rfl (yb rfl (ya rfl (AU (xs := [AJ 1, str [112], .int .u8 1, .slice V 0 vc, .slice T 1 tc]) rfl rfl (FS (M.blk 2 rfl) 0 5 rfl rfl) underlying29 rfl EN) ?_)))
 have hW := M.rdOwn 0 rfl
 refine cl 67 rfl (AP rfl rfl call8) (pR gc c F V T vc tc _ (hC.fr0 M.fr) (hT.fr0 M.fr) (hY.fr0 M.fr)) ?_
 rintro _ w ⟨V2, vc2, T2, tc2, A2, fc2, rfl, hA2, hfq⟩
 refine ⟨_, rfl, ?_⟩
 replace hW := hW.fr0 hfq
 replace hfw := hfw.trans (M.fr.trans hfq)
 have M := NP w
 refine BM rfl rfl (yb rfl (DC M rfl G4 fun g5 w6 hg5 M => C4 M 0 rfl rfl C6 rfl fun w7 M => AY rfl (AQ rfl (CN rfl rfl (yb rfl (gyq rfl ?_))))))
 refine yd rfl (C3 rfl rfl (sl rfl)) (yd rfl (BZ rfl rfl rfl) (BM rfl rfl (gyq rfl ?_)))
 obtain ⟨b5_smW, o5_smW, hA5_smW⟩ := BI (k := 5) AM (hW.fr0 M.fr) (show [smW][0]? = some smW from rfl)
 refine yd rfl (B1 0 hA5_smW rfl rfl rfl (sl rfl) AM) (yd rfl (AU rfl rfl (BV Wt.len (hW.fr0 M.fr) hA5_smW (show [smW][0]? = some smW from rfl)) underlying54 rfl DB) (yd rfl (BA (parts := [(0, _)]) rfl rfl (T3 _)) (yd rfl (pG (a := smW) (b := smW) rfl rfl rfl) (BM rfl rfl (gyq rfl (yd rfl (BZ rfl rfl rfl) (BM rfl rfl (gyq rfl (gyq rfl (CJ M 0 rfl rfl rfl (yd rfl (BZ rfl rfl rfl) (BM rfl rfl ?_))))))))))))
 refine gyq rfl (gyq rfl (CJ M 0 rfl rfl rfl (yd rfl (C3 rfl rfl (sl rfl)) (yd rfl (BZ rfl rfl rfl) (BM rfl rfl (gyq rfl (CJ M 0 rfl rfl rfl (DF M (BG rfl rfl rfl) rfl rfl [str [117, 33], str [101]] ([str [117, 33], str [101]]) rfl rfl rfl rfl underlying36 D1 rfl rfl (by intro v hv; simp only [List.mem_cons, List.not_mem_nil, or_false] at hv; rcases hv with rfl | rfl <;> rfl) rfl fun g104 w8 hg104 M => B3 (some 105) (BG rfl rfl rfl) rfl rfl (AP rfl rfl call14) (R8 [[117, 33], [101]] A2 (some ⟨g104, 0, none⟩) fc2 2 _ BU (hA2.fr0 M.fr) (M.rdBlk 0 rfl rfl)) ?_))))))))
 rintro _ w9 ⟨rfl, hfw9⟩
 refine ⟨_, rfl, ?_⟩
 have M := M.step hfw9
 exact BM rfl rfl (gyq rfl (CJ M 1 rfl rfl rfl (yd rfl (BZ rfl rfl rfl) (BM rfl rfl (gnr (gr1 rfl ⟨rfl, hfw.trans M.fr⟩))))))
end Go.Proofs.YtjaocmocdhckaaaGreatDoor
