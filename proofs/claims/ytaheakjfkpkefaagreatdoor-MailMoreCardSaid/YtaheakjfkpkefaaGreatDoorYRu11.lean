/- Lemmas that the last text rests on. Condition: each says its own. -/
import Derived.Test.YtaheakjfkpkefaaGreatDoorYRu3
import Derived.Test.YtaheakjfkpkefaaGreatDoorYRu9
set_option maxHeartbeats 16000000
set_option maxRecDepth 100000
namespace Go.Proofs.YtaheakjfkpkefaaGreatDoor
open Go.RowKit
open Tryz
theorem TS (l : List El) (id : List UInt8) : ∀ i, ffN (fun (_ : Nat) (b : El) => !(decide (b.id = id))) i l = B3 l id := by
 induction l with
 | nil => intro i; rfl
 | cons x r ih =>
  intro i
  rw [ffN, B3]
  by_cases h : x.id = id
  ·rw [if_neg (by simp [h]), if_pos h]
  ·rw [if_pos (by simp [h]), if_neg h]; exact ih (i + 1)
section
variable {α : Type} {p : α → Bool} {f : α → List UInt8} {l l' : List α} {x : α} {acc : List (List UInt8)} (h : acc = (l.filter p).map f) (hl : l' = l ++ [x])
include h hl
theorem QN (hp : p x = true) : acc ++ [f x] = (l'.filter p).map f := by rw [hl, List.filter_append, List.map_append, h]; simp [hp]
theorem VG (hp : p x = false) : acc = (l'.filter p).map f := by rw [hl, List.filter_append, List.map_append, h]; simp [hp]
end
def D1 (m : Md) (id : List UInt8) : List (List UInt8) := (m.els.filter (fun u => ((decide ((u.kind.toNat : Int) = (9 : Int))) && (decide (u.att = id))))).map (fun u => u.id)
def TM (m : Md) (id : List UInt8) : List Fl → Option (List UInt8)
 | [] => none
 | u :: r => if ((((B3 m.els u.frm).isSome) && (decide (u.tg = id))) && (decide ((((B3 m.els u.frm).getD zeroEl).kind.toNat : Int) = (7 : Int)))) = true then some ((B3 m.els u.frm).getD zeroEl).id else TM m id r
def PS (m : Md) (id : List UInt8) : List UInt8 × Bool :=
 if ((!((B3 m.els id).isSome)) || (!decide ((((B3 m.els id).getD zeroEl).kind.toNat : Int) = (8 : Int)))) = true then ([], false)
 else match TM m id m.fls with
  | some k => (k, true)
  | none => ([], false)
theorem SG  : prog.built 95 [] = some #[str [], str [], .int .u8 0, str [], str [], str [], .int .u8 0, str [], str [], AA 0, AA 0] := by kernel_rfl
theorem kQ (g3 : Nat) (id : List UInt8) (x : El) (w : World) (hb : Blk w g3 9 [str id]) :
 Calls prog 157 #[.agg x.cells.toArray, pg g3] w (BN w (.bool (decide (x.id = id)))) := by
 refine BL func157 ntmps157 rfl fun M => srg (DD M rfl rfl fun g2 w1 hg2 M => AG rfl (AC rfl (B2 M 0 rfl rfl rfl (yl rfl rfl (Blk.c (hb.fr0 M.fr) 0 rfl) (ya rfl (CS rfl rfl rfl) (yb rfl (sxl_nil ?_)))))))
 exact qx_seq (sx_ret (gr1 rfl ⟨rfl, M.fr⟩))
theorem oI (g3 : Nat) (id : List UInt8) (x : Fl) (w : World) (hb : Blk w g3 9 [str id]) :
 Calls prog 78 #[.agg x.cells.toArray, pg g3] w (BN w (.bool (decide (x.tg = id)))) := by
 refine BL func78 ntmps78 rfl fun M => srg (DD M rfl rfl fun g2 w1 hg2 M => AG rfl (AC rfl (B2 M 0 rfl rfl rfl (yl rfl rfl (Blk.c (hb.fr0 M.fr) 0 rfl) (ya rfl (CS rfl rfl rfl) (yb rfl (sxl_nil ?_)))))))
 exact qx_seq (sx_ret (gr1 rfl ⟨rfl, M.fr⟩))
theorem iR (g3 : Nat) (id : List UInt8) (x : Fl) (w : World) (hb : Blk w g3 9 [str id]) :
 Calls prog 79 #[.agg x.cells.toArray, pg g3] w (BN w (.bool (decide (x.frm = id)))) := by
 refine BL func79 ntmps79 rfl fun M => srg (DD M rfl rfl fun g2 w1 hg2 M => AG rfl (AC rfl (B2 M 0 rfl rfl rfl (yl rfl rfl (Blk.c (hb.fr0 M.fr) 0 rfl) (ya rfl (CS rfl rfl rfl) (yb rfl (sxl_nil ?_)))))))
 exact qx_seq (sx_ret (gr1 rfl ⟨rfl, M.fr⟩))
theorem aL (m : Md) (a : MdA) (id : List UInt8) (w : World) (ho : MdOk m) (hM : MdIn w m a) :
 Calls prog 103 #[.agg (Md.cells m a).toArray, str id] w (BN w (.tuple #[.agg (((B3 m.els id).getD zeroEl).cells).toArray, .bool (B3 m.els id).isSome])) := by
 have hne := ho.nels
 have hnf := ho.nfls
 refine BL func103 ntmps103 rfl fun M => srg (DD M rfl rfl fun g2 w1 hg2 M => DB M (wn_none rfl) rfl rfl 9 rfl rfl ([str id]) rfl fun g3 w2 hg3 M => CO M rfl AQ fun g4 w3 hg4 M => AG rfl (AC rfl (B2 M 2 rfl rfl rfl ?_)))
 refine ya rfl (CE (us := []) (vs := [pg g3]) rfl rfl rfl) (cl 10 rfl (AE rfl rfl call63) (QG El.cells El.len a.E a.ec m.els A0 157 [pg g3] (fun (_ : Nat) (b : El) => !(!(decide (b.id = id)))) AM (fun _ _ => True) _ (G3 call157 (fun x _ w9 hf9 => (kQ g3 id x w9 ((M.blk 1 rfl).fr0 hf9)).mono fun _ _ ⟨h1, h2⟩ => ⟨by rw [h1, Bool.not_not], h2⟩)) (fun _ hf9 => (hM.els.fr0 M.fr).fr0 hf9) trivial) ?_)
 rintro _ w4 ⟨rfl, _, hfw4⟩
 refine ⟨_, rfl, ?_⟩
 have M := M.step hfw4
 refine AG rfl (sx_seq (AC rfl (BM rfl rfl (nq (AF rfl (fun h12 => ?_) (fun h12 => ?_))))))
 ·have h12p := (odt h12)
  have hff := MZ (p := (fun (_ : Nat) (b : El) => !(decide (b.id = id)))) h12p
  rw [TS] at hff
  exact srg (ya rfl (AY (parts := []) rfl rfl (SG)) (C2 M 0 rfl rfl AK rfl fun w5 M => yb rfl (gnr (qx_then_ret (E3 rfl rfl (M.rdBlk 0 rfl rfl) underlying95 rfl AK rfl ⟨by rw [hff]; rfl, M.fr⟩)))))
 ·have h12p := (odf h12)
  obtain ⟨j, x, hj, hx, hff⟩ := N0 (p := (fun (_ : Nat) (b : El) => !(decide (b.id = id)))) h12p
  have hjl : j < m.els.length := (List.getElem?_eq_some_iff.1 hx).1
  rw [hj]
  obtain ⟨b_x, o_x, hA_x⟩ := B7 (k := 11) A0 (M.rd hM.els) hx
  rw [TS] at hff
  refine sx_skip (qx_seq (AC rfl (B2 M 2 rfl rfl rfl (yb rfl (ya rfl (AP j hA_x rfl rfl rfl (sl rfl) A0) (ya rfl (AH rfl rfl (BB El.len (M.rd hM.els) hA_x hx) underlying95 rfl AK) (C2 M 0 rfl rfl AK rfl fun w6 M => yb rfl (gnr (E3 rfl rfl (M.rdBlk 0 rfl rfl) underlying95 rfl AK rfl ?_)))))))))
  exact ⟨by rw [hff]; rfl, M.fr⟩
theorem WZ (m : Md) (a : MdA) (f : FuncId) (cs : List Value) (p : Fl → Bool) (w : World) (ho : MdOk m) (hM : MdIn w m a) (hfn : ∀ (ar : Array Value) (w : World), (callFunc f ar).run prog w = .ok (.enter f ar) w)
 (hp : ∀ x ∈ m.fls, ∀ W, Fr0 w W → Calls prog f (.agg x.cells.toArray :: cs).toArray W fun e W' => e = .returned (.bool (p x)) ∧ Fr0 W W') :
 Calls prog 77 #[.agg (Md.cells m a).toArray, .func (.func f) #[] cs.toArray] w fun e w' => ∃ A c, e = .returned (.slice A ((m.fls.filter (fun u => p u)).map (fun u => u.id)).length c) ∧ w'.ownsRow w.heap.size 9 1 (.slice A ((m.fls.filter (fun u => p u)).map (fun u => u.id)).length c) ((m.fls.filter (fun u => p u)).map (fun u => u.id)).length (AB BK ((m.fls.filter (fun u => p u)).map (fun u => u.id))) ∧ Fr0 w w' := by
 have hne := ho.nels
 have hnf := ho.nfls
 refine BL func77 ntmps77 rfl fun M => srg (DD M rfl rfl fun g2 w1 hg2 M => AG rfl (srg (AG rfl (sx_seq (srg ?_)))))
 refine yb rfl (B2 M 0 rfl rfl rfl (DP rfl rfl (AG rfl (sx_block ?_))))
 have M := M.nilOwn 9 1
 refine flp [10, 9, 1] (fun ze e wr mz => ∃ (i : Nat) (acc : List (List UInt8)) (A : Option Addr) (c : Nat), e = (5, .slice A acc.length c) :: (11, AA (i : Int)) :: ze ∧ Mem w AM [As.own w.heap.size 9 1 (.slice A acc.length c) acc.length (AB BK acc), As.blk g2 62 (Md.cells m a)] wr ∧ (i ≤ m.fls.length) ∧ (acc = ((m.fls.take i).filter (fun u => p u)).map (fun u => u.id)) ∧ (acc.length ≤ i) ∧ mz = m.fls.length - i) ⟨0, [], none, 0, rfl, M, Nat.zero_le _, rfl, Nat.le_refl _, rfl⟩ ?_
 rintro _ w2 _ ⟨i, acc, A, c, rfl, M, hi, hacc, hal, rfl⟩
 refine srg (BM rfl rfl (nq (sx_seq (AF rfl (fun h12 => ?_) (fun h12 => ?_)))))
 ·have h12p := (odt h12)
  refine sx_skip (qx_seq (sx_seq (sx_block (srg ?_))))
  obtain ⟨u, hu⟩ := BZ (l := m.fls) (i := i) A0
  obtain ⟨b_u, o_u, hA_u⟩ := B7 (k := 4) A0 (M.rd hM.fls) hu
  refine ya rfl (AP i hA_u rfl rfl rfl (sl rfl) A0) (ya rfl (AH rfl rfl (BB Fl.len (M.rd hM.fls) hA_u hu) underlying109 rfl C4) (CO M rfl E9 fun g7 w3 hg7 M => C2 M 0 rfl rfl C4 rfl fun w4 M => nq (AC rfl (DO M 0 rfl rfl underlying109 C4 rfl (MC M 17 rfl (BC rfl rfl rfl hfn) (hp u (List.mem_of_getElem? hu) _ M.fr) fun w5 M => nq (AF rfl (fun h17 => ?_) (fun h17 => ?_)))))))
  ·refine sx_region (AV rfl rfl (B2 M 0 rfl rfl rfl (CU M (wn_none rfl) rfl rfl [str u.id] ([str u.id]) rfl rfl rfl rfl underlying48 CP rfl rfl (EZ rfl) rfl fun g21 w6 hg21 M => DC (len' := (acc ++ [u.id]).length) (xs' := AB BK (acc ++ [u.id])) M 2 (wn_none rfl) rfl rfl rfl rfl rfl rfl (M.rdBlk 0 rfl rfl) underlying48 CI rfl AU (BG rfl) (Nat.le_refl _) (Nat.le_refl _) CX (by unfold maxLen; first | omega | (simp; omega)) (by simp) (by first | exact (AT _ _ _).symm | simp [AB, BK]) fun A22 c22 w7 M => yb rfl (sxl_nil (qx_block_normal (qx_seq (sx_region (C1 rfl rfl (yb rfl (sxl_nil ?_))))))))))
   refine fag ⟨i + 1, acc ++ [u.id], A22, c22, rfl, (M.pk [2, 3]), ?_, ?_, ?_, rfl⟩
   ·omega
   ·first
     | exact QN hacc (AJ hu) h17
     | exact VG hacc (AJ hu) h17
   ·first | omega | (simp only [List.length_append, List.length_cons, List.length_nil]; omega)
  ·refine sx_skip (qx_block_normal (qx_seq (sx_region (C1 rfl rfl (yb rfl (sxl_nil (fag ⟨i + 1, acc, A, c, rfl, (M.pk [1, 2]), ?_, ?_, ?_, rfl⟩)))))))
   ·omega
   ·first
     | exact QN hacc (AJ hu) h17
     | exact VG hacc (AJ hu) h17
   ·first | omega | (simp only [List.length_append, List.length_cons, List.length_nil]; omega)
 ·have h12p := (odf h12)
  refine sx_exit (qx_then_exit (qx_then_exit ?_))
  have hiE : i = m.fls.length := by omega
  rw [hiE, List.take_length] at hacc
  refine qx_block_hit (qx_seq (AC rfl (yb rfl (gnr (gr1 rfl ?_)))))
  rw [← hacc]
  exact ⟨_, _, rfl, M.own 0 rfl, M.fr⟩
theorem oG (m : Md) (a : MdA) (id : List UInt8) (w : World) (ho : MdOk m) (hM : MdIn w m a) :
 Calls prog 40 #[.agg (Md.cells m a).toArray, str id] w fun e w' => ∃ A c, e = .returned (.slice A ((DG m.fls id).map (fun u => u.id)).length c) ∧ w'.ownsRow w.heap.size 9 1 (.slice A ((DG m.fls id).map (fun u => u.id)).length c) ((DG m.fls id).map (fun u => u.id)).length (AB BK ((DG m.fls id).map (fun u => u.id))) ∧ Fr0 w w' := by
 refine BL func40 ntmps40 rfl fun M => srg (DD M rfl rfl fun g2 w1 hg2 M => DB M (wn_none rfl) rfl rfl 9 rfl rfl ([str id]) rfl fun g3 w2 hg3 M => AG rfl (srg (DO M 1 rfl rfl underlying62 B6 rfl (ya rfl (CE (us := []) (vs := [pg g3]) rfl rfl rfl) (cl 7 rfl (AE rfl rfl call77) (WZ m a 78 [pg g3] (fun u => decide (u.tg = id)) _ ho (hM.fr0 M.fr) call78 (fun x _ W hW => oI g3 id x W ((M.blk 0 rfl).fr0 hW))) ?_)))))
 rintro _ w3 ⟨A7, c7, rfl, how3, hfw3⟩
 refine ⟨_, rfl, ?_⟩
 have M := M.pushOwn hfw3 (Nat.le_refl _) how3
 exact yb rfl (gnr (gr1 rfl ⟨_, _, rfl, M.own 0 rfl, M.fr⟩))
theorem iP (m : Md) (a : MdA) (id : List UInt8) (w : World) (ho : MdOk m) (hM : MdIn w m a) :
 Calls prog 41 #[.agg (Md.cells m a).toArray, str id] w fun e w' => ∃ A c, e = .returned (.slice A ((BI m.fls id).map (fun u => u.id)).length c) ∧ w'.ownsRow w.heap.size 9 1 (.slice A ((BI m.fls id).map (fun u => u.id)).length c) ((BI m.fls id).map (fun u => u.id)).length (AB BK ((BI m.fls id).map (fun u => u.id))) ∧ Fr0 w w' := by
 refine BL func41 ntmps41 rfl fun M => srg (DD M rfl rfl fun g2 w1 hg2 M => DB M (wn_none rfl) rfl rfl 9 rfl rfl ([str id]) rfl fun g3 w2 hg3 M => AG rfl (srg (DO M 1 rfl rfl underlying62 B6 rfl (ya rfl (CE (us := []) (vs := [pg g3]) rfl rfl rfl) (cl 7 rfl (AE rfl rfl call77) (WZ m a 79 [pg g3] (fun u => decide (u.frm = id)) _ ho (hM.fr0 M.fr) call79 (fun x _ W hW => iR g3 id x W ((M.blk 0 rfl).fr0 hW))) ?_)))))
 rintro _ w3 ⟨A7, c7, rfl, how3, hfw3⟩
 refine ⟨_, rfl, ?_⟩
 have M := M.pushOwn hfw3 (Nat.le_refl _) how3
 exact yb rfl (gnr (gr1 rfl ⟨_, _, rfl, M.own 0 rfl, M.fr⟩))
theorem HH (m : Md) (a : MdA) (id : List UInt8) (w : World) (ho : MdOk m) (hM : MdIn w m a) :
 Calls prog 94 #[.agg (Md.cells m a).toArray, str id] w fun e w' => ∃ A c, e = .returned (.slice A (AN m.els id).length c) ∧ w'.ownsRow w.heap.size 9 1 (.slice A (AN m.els id).length c) (AN m.els id).length (AB BK (AN m.els id)) ∧ Fr0 w w' := by
 refine BL func94 ntmps94 rfl fun M => srg (DD M rfl rfl fun g2 w1 hg2 M => AG rfl (srg (DO M 0 rfl rfl underlying62 B6 rfl (cl 6 rfl (AE rfl rfl call65) (RM m a _ ho.b (hM.fr0 M.fr)) ?_))))
 rintro _ w2 ⟨ix, gx, FX, rfl, hix, hnx, hfw2⟩
 refine ⟨_, rfl, ?_⟩
 have M := M.push hfw2 (As.ixp m a ix gx FX) hix hnx
 refine yb rfl (cl 8 rfl (AE rfl rfl call132) (TW m a ix gx id _ ho (IxN.at (M.ok 0 _ rfl) (hM.fr0 M.fr))) ?_)
 rintro _ w3 ⟨A8, c8, rfl, how3, hfw3⟩
 refine ⟨_, rfl, ?_⟩
 have M := M.pushOwn hfw3 (Nat.le_refl _) how3
 have hL8 := M.ownLen 0 rfl
 exact yb rfl (gnr (gr1 rfl ⟨_, _, rfl, M.own 0 rfl, M.fr⟩))
theorem LP (m : Md) (a : MdA) (id : List UInt8) (w : World) (ho : MdOk m) (hM : MdIn w m a) :
 Calls prog 95 #[.agg (Md.cells m a).toArray, str id] w fun e w' => ∃ A c, e = .returned (.slice A (D1 m id).length c) ∧ w'.ownsRow w.heap.size 9 1 (.slice A (D1 m id).length c) (D1 m id).length (AB BK (D1 m id)) ∧ Fr0 w w' := by
 have hne := ho.nels
 have hnf := ho.nfls
 refine BL func95 ntmps95 rfl fun M => srg (DD M rfl rfl fun g2 w1 hg2 M => AG rfl (srg (AG rfl (sx_seq (srg ?_)))))
 refine yb rfl (B2 M 0 rfl rfl rfl (DP rfl rfl (AG rfl (sx_block ?_))))
 have M := M.nilOwn 9 1
 refine flp [10, 9, 1] (fun ze e wr mz => ∃ (i : Nat) (acc : List (List UInt8)) (A : Option Addr) (c : Nat), e = (5, .slice A acc.length c) :: (11, AA (i : Int)) :: ze ∧ Mem w AM [As.own w.heap.size 9 1 (.slice A acc.length c) acc.length (AB BK acc), As.blk g2 62 (Md.cells m a)] wr ∧ (i ≤ m.els.length) ∧ (acc = ((m.els.take i).filter (fun u => ((decide ((u.kind.toNat : Int) = 9)) && (decide (u.att = id))))).map (fun u => u.id)) ∧ (acc.length ≤ i) ∧ mz = m.els.length - i) ⟨0, [], none, 0, rfl, M, Nat.zero_le _, rfl, Nat.le_refl _, rfl⟩ ?_
 rintro _ w2 _ ⟨i, acc, A, c, rfl, M, hi, hacc, hal, rfl⟩
 refine srg (BM rfl rfl (nq (sx_seq (AF rfl (fun h12 => ?_) (fun h12 => ?_)))))
 ·have h12p := (odt h12)
  refine sx_skip (qx_seq (sx_seq (sx_block (srg ?_))))
  obtain ⟨u, hu⟩ := BZ (l := m.els) (i := i) A0
  obtain ⟨b_u, o_u, hA_u⟩ := B7 (k := 11) A0 (M.rd hM.els) hu
  refine ya rfl (AP i hA_u rfl rfl rfl (sl rfl) A0) (ya rfl (AH rfl rfl (BB El.len (M.rd hM.els) hA_u hu) underlying95 rfl AK) (CO M rfl AQ fun g7 w3 hg7 M => C2 M 0 rfl rfl AK rfl fun w4 M => nq (AC rfl (B2 M 0 rfl rfl rfl (C7 rfl rfl (yb rfl (fvm M 5 [7, 11, 10, 9, 5, 1] [(23, .bool ((decide ((u.kind.toNat : Int) = 9)) && (decide (u.att = id))))] ?_ (fun k18 => ?_))))))))
  ·intro w5 M
   refine nq (AF rfl (fun h23 => ?_) (fun h23 => ?_))
   ·have h23p := (And.intro (odt (BX h23).1) (odt (BX h23).2))
    refine sx_region (AV rfl rfl (B2 M 0 rfl rfl rfl (CU M (wn_none rfl) rfl rfl [str u.id] ([str u.id]) rfl rfl rfl rfl underlying48 CP rfl rfl (EZ rfl) rfl fun g27 w6 hg27 M => DC (len' := (acc ++ [u.id]).length) (xs' := AB BK (acc ++ [u.id])) M 2 (wn_none rfl) rfl rfl rfl rfl rfl rfl (M.rdBlk 0 rfl rfl) underlying48 CI rfl AU (BG rfl) (Nat.le_refl _) (Nat.le_refl _) CX (by unfold maxLen; first | omega | (simp; omega)) (by simp) (by first | exact (AT _ _ _).symm | simp [AB, BK]) fun A28 c28 w7 M => yb rfl (sxl_nil (qx_block_normal (qx_seq (sx_region (C1 rfl rfl (yb rfl (sxl_nil ?_))))))))))
    refine fag ⟨i + 1, acc ++ [u.id], A28, c28, rfl, (M.pk [2, 3]), ?_, ?_, ?_, rfl⟩
    ·omega
    ·first
      | exact QN hacc (AJ hu) h23
      | exact VG hacc (AJ hu) h23
    ·first | omega | (simp only [List.length_append, List.length_cons, List.length_nil]; omega)
   ·have h23p := ((DA h23).imp (fun z => (odf z)) (fun z => (odf z)))
    refine sx_skip (qx_block_normal (qx_seq (sx_region (C1 rfl rfl (yb rfl (sxl_nil (fag ⟨i + 1, acc, A, c, rfl, (M.pk [1, 2]), ?_, ?_, ?_, rfl⟩)))))))
    ·omega
    ·first
      | exact QN hacc (AJ hu) h23
      | exact VG hacc (AJ hu) h23
    ·first | omega | (simp only [List.length_append, List.length_cons, List.length_nil]; omega)
  refine AD (d := 18) rfl (fun h18 => ?_) (fun h18 => ?_)
  ·exact gyq rfl (C3 M 0 rfl rfl rfl (gyq rfl (yd rfl (CS rfl rfl rfl) (yb rfl (k18 M ⟨rfl, rfl, rfl, rfl, rfl, rfl, (by rw [h18]; rfl), trivial⟩)))))
  ·iterate 4 refine yo rfl ?_
   exact yb rfl (k18 M ⟨rfl, rfl, rfl, rfl, rfl, rfl, (by rw [h18]; rfl), trivial⟩)
 ·have h12p := (odf h12)
  refine sx_exit (qx_then_exit (qx_then_exit ?_))
  have hiE : i = m.els.length := by omega
  rw [hiE, List.take_length] at hacc
  refine qx_block_hit (qx_seq (AC rfl (yb rfl (gnr (gr1 rfl ?_)))))
  have hbp : D1 m id = acc := hacc.symm
  rw [hbp]
  exact ⟨_, _, rfl, M.own 0 rfl, M.fr⟩
theorem kD (m : Md) (a : MdA) (id : List UInt8) (w : World) (ho : MdOk m) (hM : MdIn w m a) :
 Calls prog 60 #[.agg (Md.cells m a).toArray, str id] w (BN w (.tuple #[str (PS m id).1, .bool (PS m id).2])) := by
 have hne := ho.nels
 have hnf := ho.nfls
 refine BL func60 ntmps60 rfl fun M => srg (DD M rfl rfl fun g2 w1 hg2 M => yb rfl (AG rfl (sx_seq (srg (DO M 0 rfl rfl underlying62 B6 rfl (yb rfl (DV M 15 rfl rfl call103 (aL m a id _ ho (hM.fr0 M.fr)) fun w2 M => yb rfl ?_)))))))
 refine AV rfl rfl (CO M rfl AQ fun g6 w3 hg6 M => C2 M 0 rfl rfl AK rfl fun w4 M => AG rfl (AC rfl (AV rfl rfl (fvm M 4 [2, 1] [(24, .bool ((!(B3 m.els id).isSome) || (!decide ((((B3 m.els id).getD zeroEl).kind.toNat : Int) = 8))))] ?_ (fun k20 => ?_)))))
 ·intro w5 M
  refine nq (AF rfl (fun h24 => ?_) (fun h24 => ?_))
  ·have h24p := ((E6 h24).imp (fun z => (BY z)) (fun z => (odf (BY z))))
   exact AC rfl (yb rfl (gnr (qx_then_ret (BS rfl rfl rfl ⟨by rw [PS, if_pos h24] <;> rfl, M.fr⟩))))
  ·have h24p := (And.intro (BJ (BT h24).1) (odt (BJ (BT h24).2)))
   refine sx_skip (qx_seq (sx_seq (AC rfl (B2 M 1 rfl rfl rfl (DP rfl rfl (AG rfl (sx_block (MX M [27, 26, 2, 1] (fun ze zF e wr mz => ∃ (i : Nat), e = (28, AA (i : Int)) :: ze ∧ zF wr ∧ (i ≤ m.fls.length) ∧ (TM m id m.fls = TM m id (m.fls.drop i)) ∧ mz = m.fls.length - i) ⟨0, rfl, M, Nat.zero_le _, rfl, rfl⟩ ?_))))))))
   rintro _ w6 _ ⟨i, rfl, M, hi, hE, rfl⟩
   refine srg (BM rfl rfl (nq (sx_seq (AF rfl (fun h29 => ?_) (fun h29 => ?_)))))
   ·have h29p := (odt h29)
    refine sx_skip (qx_seq (sx_seq (sx_block (srg ?_))))
    obtain ⟨u, hu⟩ := BZ (l := m.fls) (i := i) A0
    obtain ⟨b_u, o_u, hA_u⟩ := B7 (k := 4) A0 (M.rd hM.fls) hu
    refine ya rfl (AP i hA_u rfl rfl rfl (sl rfl) A0) (ya rfl (AH rfl rfl (BB Fl.len (M.rd hM.fls) hA_u hu) underlying109 rfl C4) (CO M rfl E9 fun g9 w7 hg9 M => C2 M 0 rfl rfl C4 rfl fun w8 M => EF (DO M 2 rfl rfl underlying62 B6 rfl (yb rfl (B2 M 0 rfl rfl rfl (DV M 36 rfl rfl call103 (aL m a u.frm _ ho (hM.fr0 M.fr)) fun w9 M => AV rfl rfl ?_))))))
    refine yb rfl (CO M rfl AQ fun g10 w10 hg10 M => C2 M 0 rfl rfl AK rfl fun w11 M => AG rfl (AC rfl (yb rfl (fvm M 5 [10, 28, 27, 26, 2, 1] [(45, .bool ((B3 m.els u.frm).isSome && (decide (u.tg = id))))] ?_ (fun k40 => ?_)))))
    ·intro w12 M
     refine yb rfl (fvm M 4 [10, 28, 27, 26, 2, 1] [(50, .bool (((B3 m.els u.frm).isSome && (decide (u.tg = id))) && (decide ((((B3 m.els u.frm).getD zeroEl).kind.toNat : Int) = 7))))] ?_ (fun k46 => ?_))
     ·intro w13 M
      refine nq (AF rfl (fun h50 => ?_) (fun h50 => ?_))
      ·exact AC rfl (B2 M 0 rfl rfl rfl (AV rfl rfl (gnr (qx_block_ret (qx_then_ret (qx_then_ret (qx_block_ret (qx_then_ret (BS rfl rfl rfl ⟨by rw [PS, AS h24, hE, B0 hu, TM, if_pos h50] <;> rfl, M.fr⟩)))))))))
      ·have h50p := ((DA h50).imp (fun z => ((DA z).imp (fun z => z) (fun z => (odf z)))) (fun z => (odf z)))
       refine sx_skip (qx_block_normal (qx_seq (sx_region (C1 rfl rfl (yb rfl (sxl_nil (fag ⟨i + 1, rfl, (M.pk [2, 3]), ?_, ?_, rfl⟩)))))))
       ·omega
       ·rw [hE, B0 hu, TM, AS h50]
     refine AD (d := 46) rfl (fun h46 => ?_) (fun h46 => ?_)
     ·exact gyq rfl (C3 M 0 rfl rfl rfl (yd rfl (BO rfl rfl rfl) (yb rfl (k46 M ⟨rfl, rfl, rfl, rfl, rfl, rfl, (by rw [h46]; rfl), trivial⟩))))
     ·exact yo rfl (yo rfl (yo rfl (yb rfl (k46 M ⟨rfl, rfl, rfl, rfl, rfl, rfl, (by rw [h46]; rfl), trivial⟩))))
    refine AD (d := 40) rfl (fun h40 => ?_) (fun h40 => ?_)
    ·exact gyq rfl (C3 M 1 rfl rfl rfl (gyq rfl (yd rfl (CS rfl rfl rfl) (yb rfl (k40 M ⟨rfl, rfl, rfl, rfl, rfl, rfl, (by rw [h40]; rfl), trivial⟩)))))
    ·iterate 4 refine yo rfl ?_
     exact yb rfl (k40 M ⟨rfl, rfl, rfl, rfl, rfl, rfl, (by rw [h40]; rfl), trivial⟩)
   ·have h29p := (odf h29)
    refine sx_exit (qx_then_exit (qx_then_exit (qx_block_hit (qx_seq (AC rfl (yb rfl (gnr (BS rfl rfl rfl ?_))))))))
    obtain rfl : i = m.fls.length := by omega
    exact ⟨by rw [PS, AS h24, hE, List.drop_length]; rfl, M.fr⟩
 refine AD (d := 20) rfl (fun h20 => ?_) (fun h20 => ?_)
 ·exact yo rfl (yo rfl (yo rfl (yb rfl (k20 M ⟨rfl, rfl, (by rw [h20]; rfl), trivial⟩))))
 ·exact gyq rfl (C3 M 0 rfl rfl rfl (yd rfl (E1 rfl rfl rfl) (yb rfl (k20 M ⟨rfl, rfl, (by rw [h20]; rfl), trivial⟩))))
end Go.Proofs.YtaheakjfkpkefaaGreatDoor
