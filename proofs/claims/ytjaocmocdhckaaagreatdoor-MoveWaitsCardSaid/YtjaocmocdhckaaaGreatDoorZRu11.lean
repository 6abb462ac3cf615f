/- Lemmas that the last text rests on. Condition: each says its own. -/
import Derived.Test.YtjaocmocdhckaaaGreatDoorZRu3
import Derived.Test.YtjaocmocdhckaaaGreatDoorZRu9
set_option maxHeartbeats 16000000
set_option maxRecDepth 100000
namespace Go.Proofs.YtjaocmocdhckaaaGreatDoor
open Go.RowKit
open Tryz
theorem T4 (l : List El) (id : List UInt8) : ∀ i, ffN (fun (_ : Nat) (b : El) => !(decide (b.id = id))) i l = BK l id := by
 induction l with
 | nil => intro i; rfl
 | cons x r ih =>
  intro i
  rw [ffN, BK]
  by_cases h : x.id = id
  ·rw [if_neg (by simp [h]), if_pos h]
  ·rw [if_pos (by simp [h]), if_neg h]; exact ih (i + 1)
section
variable {α : Type} {p : α → Bool} {f : α → List UInt8} {l l' : List α} {x : α} {acc : List (List UInt8)} (h : acc = (l.filter p).map f) (hl : l' = l ++ [x])
include h hl
theorem Q8 (hp : p x = true) : acc ++ [f x] = (l'.filter p).map f := by rw [hl, List.filter_append, List.map_append, h]; simp [hp]
theorem UL (hp : p x = false) : acc = (l'.filter p).map f := by rw [hl, List.filter_append, List.map_append, h]; simp [hp]
end
def DP (m : Md) (id : List UInt8) : List (List UInt8) := (m.els.filter (fun u => ((decide ((u.kind.toNat : Int) = (9 : Int))) && (decide (u.att = id))))).map (fun u => u.id)
def SX (m : Md) (id : List UInt8) : List Fl → Option (List UInt8)
 | [] => none
 | u :: r => if ((((BK m.els u.frm).isSome) && (decide (u.tg = id))) && (decide ((((BK m.els u.frm).getD zeroEl).kind.toNat : Int) = (7 : Int)))) = true then some ((BK m.els u.frm).getD zeroEl).id else SX m id r
def RC (m : Md) (id : List UInt8) : List UInt8 × Bool :=
 if ((!((BK m.els id).isSome)) || (!decide ((((BK m.els id).getD zeroEl).kind.toNat : Int) = (8 : Int)))) = true then ([], false)
 else match SX m id m.fls with
  | some k => (k, true)
  | none => ([], false)
theorem RW  : prog.built 69 [] = some #[str [], str [], .int .u8 0, str [], str [], str [], .int .u8 0, str [], str [], .int .i64 0, .int .i64 0] := by kernel_rfl
theorem iN (g3 : Nat) (id : List UInt8) (x : El) (w : World) (hb : Blk w g3 9 [str id]) :
 Calls prog 154 #[.agg x.cells.toArray, pg g3] w fun e w' => e = .returned (.bool (decide (x.id = id))) ∧ Fr0 w w' := by
 refine C2 func154 ntmps154 rfl fun M => srg (CN M rfl rfl fun g2 w1 hg2 M => yb rfl (nq (srg (yb rfl (BA M 0 rfl rfl rfl (yl rfl rfl (Blk.c (hb.fr0 M.fr) 0 rfl) (ya rfl (D8 rfl rfl rfl) (yb rfl (AC ?_)))))))))
 exact AA (AI (gr1 rfl ⟨rfl, M.fr⟩))
theorem mP (g3 : Nat) (id : List UInt8) (x : Fl) (w : World) (hb : Blk w g3 9 [str id]) :
 Calls prog 49 #[.agg x.cells.toArray, pg g3] w fun e w' => e = .returned (.bool (decide (x.tg = id))) ∧ Fr0 w w' := by
 refine C2 func49 ntmps49 rfl fun M => srg (CN M rfl rfl fun g2 w1 hg2 M => yb rfl (nq (srg (yb rfl (BA M 0 rfl rfl rfl (yl rfl rfl (Blk.c (hb.fr0 M.fr) 0 rfl) (ya rfl (D8 rfl rfl rfl) (yb rfl (AC ?_)))))))))
 exact AA (AI (gr1 rfl ⟨rfl, M.fr⟩))
theorem fQ (g3 : Nat) (id : List UInt8) (x : Fl) (w : World) (hb : Blk w g3 9 [str id]) :
 Calls prog 50 #[.agg x.cells.toArray, pg g3] w fun e w' => e = .returned (.bool (decide (x.frm = id))) ∧ Fr0 w w' := by
 refine C2 func50 ntmps50 rfl fun M => srg (CN M rfl rfl fun g2 w1 hg2 M => yb rfl (nq (srg (yb rfl (BA M 0 rfl rfl rfl (yl rfl rfl (Blk.c (hb.fr0 M.fr) 0 rfl) (ya rfl (D8 rfl rfl rfl) (yb rfl (AC ?_)))))))))
 exact AA (AI (gr1 rfl ⟨rfl, M.fr⟩))
theorem ZE (m : Md) (a : MdA) (id : List UInt8) (w : World) (ho : MdOk m) (hM : MdIn w m a) :
 Calls prog 124 #[.agg (Md.cells m a).toArray, str id] w fun e w' => e = .returned (.tuple #[.agg (((BK m.els id).getD zeroEl).cells).toArray, .bool (BK m.els id).isSome]) ∧ Fr0 w w' := by
 have hne := ho.nels
 have hnf := ho.nfls
 refine C2 func124 ntmps124 rfl fun M => srg (CN M rfl rfl fun g2 w1 hg2 M => DX M (AF rfl) rfl rfl 9 rfl rfl ([str id]) rfl fun g3 w2 hg3 M => D6 M rfl B4 fun g4 w3 hg4 M => yb rfl (nq (srg (yb rfl (BA M 2 rfl rfl rfl ?_)))))
 refine ya rfl (D9 (us := []) (vs := [pg g3]) rfl rfl rfl) (cl 10 rfl (AQ rfl rfl call33) (Q1 El.cells El.len a.E a.ec m.els AO 154 [pg g3] (fun (_ : Nat) (b : El) => !(!(decide (b.id = id)))) AV (fun _ _ => True) _ (GI call154 (fun x _ w9 hf9 => (iN g3 id x w9 ((M.blk 1 rfl).fr0 hf9)).mono fun _ _ ⟨h1, h2⟩ => ⟨by rw [h1, Bool.not_not], h2⟩)) (fun _ hf9 => (hM.els.fr0 M.fr).fr0 hf9) trivial) ?_)
 rintro _ w4 ⟨rfl, _, hfw4⟩
 refine ⟨_, rfl, ?_⟩
 have M := M.step hfw4
 refine yb rfl (AC (AA (AD (AD (AB (yb rfl (CB rfl rfl (AC (AA (AN rfl (fun h12 => ?_) (fun h12 => ?_)))))))))))
 ·have h12p := (odt h12)
  have hff := N9 (p := (fun (_ : Nat) (b : El) => !(decide (b.id = id)))) h12p
  rw [T4] at hff
  exact srg (ya rfl (B9 (parts := []) rfl rfl (RW)) (C1 M 0 rfl rfl AZ rfl fun w5 M => yb rfl (nq (AI (AE (B8 rfl rfl (M.rdBlk 0 rfl rfl) underlying69 rfl AZ rfl ⟨by rw [hff]; rfl, M.fr⟩))))))
 ·have h12p := (odf h12)
  obtain ⟨j, x, hj, hx, hff⟩ := NA (p := (fun (_ : Nat) (b : El) => !(decide (b.id = id)))) h12p
  have hjl : j < m.els.length := (List.getElem?_eq_some_iff.1 hx).1
  rw [hj]
  obtain ⟨b_x, o_x, hA_x⟩ := BI (k := 11) AO (M.rd hM.els) hx
  rw [T4] at hff
  refine AL (AA (srg (yb rfl (BA M 2 rfl rfl rfl (yb rfl (ya rfl (B1 j hA_x rfl rfl rfl (sl rfl) AO) (ya rfl (AT rfl rfl (BQ El.len (M.rd hM.els) hA_x hx) underlying69 rfl AZ) (C1 M 0 rfl rfl AZ rfl fun w6 M => yb rfl (nq (AI (B8 rfl rfl (M.rdBlk 0 rfl rfl) underlying69 rfl AZ rfl ?_)))))))))))
  exact ⟨by rw [hff]; rfl, M.fr⟩
theorem W2 (m : Md) (a : MdA) (f : FuncId) (cs : List Value) (p : Fl → Bool) (w : World) (ho : MdOk m) (hM : MdIn w m a) (hfn : ∀ (ar : Array Value) (w : World), (callFunc f ar).run prog w = .ok (.enter f ar) w)
 (hp : ∀ x ∈ m.fls, ∀ W, Fr0 w W → Calls prog f (.agg x.cells.toArray :: cs).toArray W fun e W' => e = .returned (.bool (p x)) ∧ Fr0 W W') :
 Calls prog 48 #[.agg (Md.cells m a).toArray, .func (.func f) #[] cs.toArray] w fun e w' => ∃ A c, e = .returned (.slice A ((m.fls.filter (fun u => p u)).map (fun u => u.id)).length c) ∧ w'.ownsRow w.heap.size 9 1 (.slice A ((m.fls.filter (fun u => p u)).map (fun u => u.id)).length c) ((m.fls.filter (fun u => p u)).map (fun u => u.id)).length (AK BW ((m.fls.filter (fun u => p u)).map (fun u => u.id))) ∧ Fr0 w w' := by
 have hne := ho.nels
 have hnf := ho.nfls
 refine C2 func48 ntmps48 rfl fun M => srg (CN M rfl rfl fun g2 w1 hg2 M => yb rfl (nq (srg (yb rfl (nq (AD (srg ?_)))))))
 refine yb rfl (BA M 0 rfl rfl rfl (ya rfl (C7 rfl rfl (sl rfl)) (yb rfl (nq (AR ?_)))))
 have M := M.nilOwn 9 1
 refine flp [10, 9, 1] (fun ze e wr mz => ∃ (i : Nat) (acc : List (List UInt8)) (A : Option Addr) (c : Nat), e = (5, .slice A acc.length c) :: (11, .int .i64 ((i : Nat) : Int)) :: ze ∧ Mem w AV [As.own w.heap.size 9 1 (.slice A acc.length c) acc.length (AK BW acc), As.blk g2 26 (Md.cells m a)] wr ∧ (i ≤ m.fls.length) ∧ (acc = ((m.fls.take i).filter (fun u => p u)).map (fun u => u.id)) ∧ (acc.length ≤ i) ∧ mz = m.fls.length - i) ⟨0, [], none, 0, rfl, M, Nat.zero_le _, rfl, Nat.le_refl _, rfl⟩ ?_
 rintro _ w2 _ ⟨i, acc, A, c, rfl, M, hi, hacc, hal, rfl⟩
 refine AD (AB (CB rfl rfl (AC (AA (AD (AN rfl (fun h12 => ?_) (fun h12 => ?_)))))))
 ·have h12p := (odt h12)
  refine AL (AA (AD (AR (srg ?_))))
  obtain ⟨u, hu⟩ := CA (l := m.fls) (i := i) AO
  obtain ⟨b_u, o_u, hA_u⟩ := BI (k := 4) AO (M.rd hM.fls) hu
  refine ya rfl (B1 i hA_u rfl rfl rfl (sl rfl) AO) (ya rfl (AT rfl rfl (BQ Fl.len (M.rd hM.fls) hA_u hu) underlying72 rfl CZ) (D6 M rfl EY fun g7 w3 hg7 M => C1 M 0 rfl rfl CZ rfl fun w4 M => AC (AA (AD (AB (yb rfl (CR M 0 rfl rfl underlying72 CZ rfl (O9 M 17 rfl (BV rfl rfl rfl hfn) (hp u (List.mem_of_getElem? hu) _ M.fr) fun w5 M => AC (AA (AN rfl (fun h17 => ?_) (fun h17 => ?_)))))))))))
  ·refine AB (yb rfl (yb rfl (BA M 0 rfl rfl rfl (DA M (AF rfl) rfl rfl [str u.id] ([str u.id]) rfl rfl rfl rfl underlying36 CW rfl rfl (GX rfl) rfl fun g21 w6 hg21 M => ED (len' := (acc ++ [u.id]).length) (xs' := AK BW (acc ++ [u.id])) M 2 (AF rfl) rfl rfl rfl rfl rfl rfl (M.rdBlk 0 rfl rfl) underlying36 DB rfl BR (BL rfl) (Nat.le_refl _) (Nat.le_refl _) (by first | omega | (simp <;> omega)) (by unfold maxLen; first | omega | (simp only [List.length_append, List.length_cons, List.length_nil]; omega)) (by simp) (by simp [AK, BW]) fun A22 c22 w7 M => yb rfl (AC (AH (AA (AB (ya rfl (BF rfl rfl rfl AO) (yb rfl (AC ?_)))))))))))
   refine fag ⟨i + 1, acc ++ [u.id], A22, c22, rfl, (M.pk [2, 3]), ?_, ?_, ?_, rfl⟩
   ·omega
   ·first
     | exact Q8 hacc (B2 hu) h17
     | exact UL hacc (B2 hu) h17
   ·first | omega | (simp only [List.length_append, List.length_cons, List.length_nil]; omega)
  ·refine AL (AH (AA (AB (ya rfl (BF rfl rfl rfl AO) (yb rfl (AC (fag ⟨i + 1, acc, A, c, rfl, (M.pk [1, 2]), ?_, ?_, ?_, rfl⟩)))))))
   ·omega
   ·first
     | exact Q8 hacc (B2 hu) h17
     | exact UL hacc (B2 hu) h17
   ·first | omega | (simp only [List.length_append, List.length_cons, List.length_nil]; omega)
 ·have h12p := (odf h12)
  refine BG (AJ (AJ ?_))
  have hiE : i = m.fls.length := by omega
  rw [hiE, List.take_length] at hacc
  refine AY (AA (srg (yb rfl (yb rfl (nq (AI (gr1 rfl ?_)))))))
  rw [← hacc]
  exact ⟨_, _, rfl, M.own 0 rfl, M.fr⟩
theorem mN (m : Md) (a : MdA) (id : List UInt8) (w : World) (ho : MdOk m) (hM : MdIn w m a) :
 Calls prog 17 #[.agg (Md.cells m a).toArray, str id] w fun e w' => ∃ A c, e = .returned (.slice A ((E6 m.fls id).map (fun u => u.id)).length c) ∧ w'.ownsRow w.heap.size 9 1 (.slice A ((E6 m.fls id).map (fun u => u.id)).length c) ((E6 m.fls id).map (fun u => u.id)).length (AK BW ((E6 m.fls id).map (fun u => u.id))) ∧ Fr0 w w' := by
 refine C2 func17 ntmps17 rfl fun M => srg (CN M rfl rfl fun g2 w1 hg2 M => DX M (AF rfl) rfl rfl 9 rfl rfl ([str id]) rfl fun g3 w2 hg3 M => yb rfl (nq (srg (CR M 1 rfl rfl underlying26 BX rfl (ya rfl (D9 (us := []) (vs := [pg g3]) rfl rfl rfl) (cl 7 rfl (AQ rfl rfl call48) (W2 m a 49 [pg g3] (fun u => decide (u.tg = id)) _ ho (hM.fr0 M.fr) call49 (fun x _ W hW => mP g3 id x W ((M.blk 0 rfl).fr0 hW))) ?_))))))
 rintro _ w3 ⟨A7, c7, rfl, how3, hfw3⟩
 refine ⟨_, rfl, ?_⟩
 have M := M.pushOwn hfw3 (Nat.le_refl _) how3
 exact yb rfl (nq (AI (gr1 rfl ⟨_, _, rfl, M.own 0 rfl, M.fr⟩)))
theorem fO (m : Md) (a : MdA) (id : List UInt8) (w : World) (ho : MdOk m) (hM : MdIn w m a) :
 Calls prog 18 #[.agg (Md.cells m a).toArray, str id] w fun e w' => ∃ A c, e = .returned (.slice A ((C9 m.fls id).map (fun u => u.id)).length c) ∧ w'.ownsRow w.heap.size 9 1 (.slice A ((C9 m.fls id).map (fun u => u.id)).length c) ((C9 m.fls id).map (fun u => u.id)).length (AK BW ((C9 m.fls id).map (fun u => u.id))) ∧ Fr0 w w' := by
 refine C2 func18 ntmps18 rfl fun M => srg (CN M rfl rfl fun g2 w1 hg2 M => DX M (AF rfl) rfl rfl 9 rfl rfl ([str id]) rfl fun g3 w2 hg3 M => yb rfl (nq (srg (CR M 1 rfl rfl underlying26 BX rfl (ya rfl (D9 (us := []) (vs := [pg g3]) rfl rfl rfl) (cl 7 rfl (AQ rfl rfl call48) (W2 m a 50 [pg g3] (fun u => decide (u.frm = id)) _ ho (hM.fr0 M.fr) call50 (fun x _ W hW => fQ g3 id x W ((M.blk 0 rfl).fr0 hW))) ?_))))))
 rintro _ w3 ⟨A7, c7, rfl, how3, hfw3⟩
 refine ⟨_, rfl, ?_⟩
 have M := M.pushOwn hfw3 (Nat.le_refl _) how3
 exact yb rfl (nq (AI (gr1 rfl ⟨_, _, rfl, M.own 0 rfl, M.fr⟩)))
theorem HY (m : Md) (a : MdA) (id : List UInt8) (w : World) (ho : MdOk m) (hM : MdIn w m a) :
 Calls prog 69 #[.agg (Md.cells m a).toArray, str id] w fun e w' => ∃ A c, e = .returned (.slice A (B3 m.els id).length c) ∧ w'.ownsRow w.heap.size 9 1 (.slice A (B3 m.els id).length c) (B3 m.els id).length (AK BW (B3 m.els id)) ∧ Fr0 w w' := by
 refine C2 func69 ntmps69 rfl fun M => srg (CN M rfl rfl fun g2 w1 hg2 M => yb rfl (nq (srg (CR M 0 rfl rfl underlying26 BX rfl (cl 6 rfl (AQ rfl rfl call35) (R7 m a _ ho (hM.fr0 M.fr)) ?_)))))
 rintro _ w2 ⟨ix, gx, FX, rfl, hix, hnx, hfw2⟩
 refine ⟨_, rfl, ?_⟩
 have M := M.push hfw2 (As.ixp m a ix gx FX) hix hnx
 refine yb rfl (cl 8 rfl (AQ rfl rfl call99) (TC m a ix gx id _ ho (IxN.at (M.ok 0 _ rfl) (hM.fr0 M.fr))) ?_)
 rintro _ w3 ⟨A8, c8, rfl, how3, hfw3⟩
 refine ⟨_, rfl, ?_⟩
 have M := M.pushOwn hfw3 (Nat.le_refl _) how3
 have hL8 := M.ownLen 0 rfl
 exact yb rfl (nq (AI (gr1 rfl ⟨_, _, rfl, M.own 0 rfl, M.fr⟩)))
theorem LX (m : Md) (a : MdA) (id : List UInt8) (w : World) (ho : MdOk m) (hM : MdIn w m a) :
 Calls prog 70 #[.agg (Md.cells m a).toArray, str id] w fun e w' => ∃ A c, e = .returned (.slice A (DP m id).length c) ∧ w'.ownsRow w.heap.size 9 1 (.slice A (DP m id).length c) (DP m id).length (AK BW (DP m id)) ∧ Fr0 w w' := by
 have hne := ho.nels
 have hnf := ho.nfls
 refine C2 func70 ntmps70 rfl fun M => srg (CN M rfl rfl fun g2 w1 hg2 M => yb rfl (nq (srg (yb rfl (nq (AD (srg ?_)))))))
 refine yb rfl (BA M 0 rfl rfl rfl (ya rfl (C7 rfl rfl (sl rfl)) (yb rfl (nq (AR ?_)))))
 have M := M.nilOwn 9 1
 refine flp [10, 9, 1] (fun ze e wr mz => ∃ (i : Nat) (acc : List (List UInt8)) (A : Option Addr) (c : Nat), e = (5, .slice A acc.length c) :: (11, .int .i64 ((i : Nat) : Int)) :: ze ∧ Mem w AV [As.own w.heap.size 9 1 (.slice A acc.length c) acc.length (AK BW acc), As.blk g2 26 (Md.cells m a)] wr ∧ (i ≤ m.els.length) ∧ (acc = ((m.els.take i).filter (fun u => ((decide ((u.kind.toNat : Int) = (9 : Int))) && (decide (u.att = id))))).map (fun u => u.id)) ∧ (acc.length ≤ i) ∧ mz = m.els.length - i) ⟨0, [], none, 0, rfl, M, Nat.zero_le _, rfl, Nat.le_refl _, rfl⟩ ?_
 rintro _ w2 _ ⟨i, acc, A, c, rfl, M, hi, hacc, hal, rfl⟩
 refine AD (AB (CB rfl rfl (AC (AA (AD (AN rfl (fun h12 => ?_) (fun h12 => ?_)))))))
 ·have h12p := (odt h12)
  refine AL (AA (AD (AR (srg ?_))))
  obtain ⟨u, hu⟩ := CA (l := m.els) (i := i) AO
  obtain ⟨b_u, o_u, hA_u⟩ := BI (k := 11) AO (M.rd hM.els) hu
  refine ya rfl (B1 i hA_u rfl rfl rfl (sl rfl) AO) (ya rfl (AT rfl rfl (BQ El.len (M.rd hM.els) hA_u hu) underlying69 rfl AZ) (D6 M rfl B4 fun g7 w3 hg7 M => C1 M 0 rfl rfl AZ rfl fun w4 M => AC (AA (AD (AB (yb rfl (BA M 0 rfl rfl rfl (CI rfl rfl (yb rfl (fvm M 5 [7, 11, 10, 9, 5, 1] [(23, .bool ((decide ((u.kind.toNat : Int) = (9 : Int))) && (decide (u.att = id))))] ?_ (fun k18 => ?_)))))))))))
  ·intro w5 M
   refine AC (AA (AN rfl (fun h23 => ?_) (fun h23 => ?_)))
   ·have h23p := (And.intro (odt (CF h23).1) (odt (CF h23).2))
    refine AB (yb rfl (yb rfl (BA M 0 rfl rfl rfl (DA M (AF rfl) rfl rfl [str u.id] ([str u.id]) rfl rfl rfl rfl underlying36 CW rfl rfl (GX rfl) rfl fun g27 w6 hg27 M => ED (len' := (acc ++ [u.id]).length) (xs' := AK BW (acc ++ [u.id])) M 2 (AF rfl) rfl rfl rfl rfl rfl rfl (M.rdBlk 0 rfl rfl) underlying36 DB rfl BR (BL rfl) (Nat.le_refl _) (Nat.le_refl _) (by first | omega | (simp <;> omega)) (by unfold maxLen; first | omega | (simp only [List.length_append, List.length_cons, List.length_nil]; omega)) (by simp) (by simp [AK, BW]) fun A28 c28 w7 M => yb rfl (AC (AH (AA (AB (ya rfl (BF rfl rfl rfl AO) (yb rfl (AC ?_)))))))))))
    refine fag ⟨i + 1, acc ++ [u.id], A28, c28, rfl, (M.pk [2, 3]), ?_, ?_, ?_, rfl⟩
    ·omega
    ·first
      | exact Q8 hacc (B2 hu) h23
      | exact UL hacc (B2 hu) h23
    ·first | omega | (simp only [List.length_append, List.length_cons, List.length_nil]; omega)
   ·have h23p := ((DM h23).imp (fun z => (odf z)) (fun z => (odf z)))
    refine AL (AH (AA (AB (ya rfl (BF rfl rfl rfl AO) (yb rfl (AC (fag ⟨i + 1, acc, A, c, rfl, (M.pk [1, 2]), ?_, ?_, ?_, rfl⟩)))))))
    ·omega
    ·first
      | exact Q8 hacc (B2 hu) h23
      | exact UL hacc (B2 hu) h23
    ·first | omega | (simp only [List.length_append, List.length_cons, List.length_nil]; omega)
  refine AP (d := 18) rfl (fun h18 => ?_) (fun h18 => ?_)
  ·exact gyq rfl (CH M 0 rfl rfl rfl (gyq rfl (yd rfl (D8 rfl rfl rfl) (yb rfl (k18 M ⟨rfl, rfl, rfl, rfl, rfl, rfl, (by rw [h18]; rfl), trivial⟩)))))
  ·iterate 4 refine yo rfl ?_
   exact yb rfl (k18 M ⟨rfl, rfl, rfl, rfl, rfl, rfl, (by rw [h18]; rfl), trivial⟩)
 ·have h12p := (odf h12)
  refine BG (AJ (AJ ?_))
  have hiE : i = m.els.length := by omega
  rw [hiE, List.take_length] at hacc
  refine AY (AA (srg (yb rfl (yb rfl (nq (AI (gr1 rfl ?_)))))))
  have hbp : DP m id = acc := hacc.symm
  rw [hbp]
  exact ⟨_, _, rfl, M.own 0 rfl, M.fr⟩
theorem iB (m : Md) (a : MdA) (id : List UInt8) (w : World) (ho : MdOk m) (hM : MdIn w m a) :
 Calls prog 66 #[.agg (Md.cells m a).toArray, str id] w fun e w' => e = .returned (.tuple #[str (RC m id).1, .bool (RC m id).2]) ∧ Fr0 w w' := by
 have hne := ho.nels
 have hnf := ho.nfls
 refine C2 func66 ntmps66 rfl fun M => srg (CN M rfl rfl fun g2 w1 hg2 M => yb rfl (yb rfl (nq (AD (srg (CR M 0 rfl rfl underlying26 BX rfl (yb rfl (D1 M 15 rfl rfl call124 (ZE m a id _ ho (hM.fr0 M.fr)) fun w2 M => yb rfl ?_))))))))
 refine yb rfl (yb rfl (D6 M rfl B4 fun g6 w3 hg6 M => C1 M 0 rfl rfl AZ rfl fun w4 M => yb rfl (AC (AA (AD (AB (yb rfl (yb rfl (yb rfl (fvm M 4 [2, 1] [(24, .bool ((!(BK m.els id).isSome) || (!decide ((((BK m.els id).getD zeroEl).kind.toNat : Int) = (8 : Int)))))] ?_ (fun k20 => ?_)))))))))))
 ·intro w5 M
  refine AC (AA (AN rfl (fun h24 => ?_) (fun h24 => ?_)))
  ·have h24p := ((EJ h24).imp (fun z => (CE z)) (fun z => (odf (CE z))))
   exact srg (yb rfl (yb rfl (nq (AI (AE (CD rfl rfl rfl ⟨by rw [RC, if_pos h24] <;> rfl, M.fr⟩))))))
  ·have h24p := (And.intro (BM (CL h24).1) (odt (BM (CL h24).2)))
   refine AL (AA (AD (srg (yb rfl (BA M 1 rfl rfl rfl (ya rfl (C7 rfl rfl (sl rfl)) (yb rfl (nq (AR (flp [27, 26, 2, 1] (fun ze e wr mz => ∃ (i : Nat), e = (28, .int .i64 ((i : Nat) : Int)) :: ze ∧ Mem w AV [As.blk g6 69 (El.cells ((BK m.els id).getD zeroEl)), As.blk g2 26 (Md.cells m a)] wr ∧ (i ≤ m.fls.length) ∧ (SX m id m.fls = SX m id (m.fls.drop i)) ∧ mz = m.fls.length - i) ⟨0, rfl, M, Nat.zero_le _, rfl, rfl⟩ ?_))))))))))
   rintro _ w6 _ ⟨i, rfl, M, hi, hE, rfl⟩
   refine AD (AB (CB rfl rfl (AC (AA (AD (AN rfl (fun h29 => ?_) (fun h29 => ?_)))))))
   ·have h29p := (odt h29)
    refine AL (AA (AD (AR (srg ?_))))
    obtain ⟨u, hu⟩ := CA (l := m.fls) (i := i) AO
    obtain ⟨b_u, o_u, hA_u⟩ := BI (k := 4) AO (M.rd hM.fls) hu
    refine ya rfl (B1 i hA_u rfl rfl rfl (sl rfl) AO) (ya rfl (AT rfl rfl (BQ Fl.len (M.rd hM.fls) hA_u hu) underlying72 rfl CZ) (D6 M rfl EY fun g9 w7 hg9 M => C1 M 0 rfl rfl CZ rfl fun w8 M => nq (srg (CR M 2 rfl rfl underlying26 BX rfl (yb rfl (BA M 0 rfl rfl rfl (D1 M 36 rfl rfl call124 (ZE m a u.frm _ ho (hM.fr0 M.fr)) fun w9 M => yb rfl (yb rfl ?_))))))))
    refine yb rfl (D6 M rfl B4 fun g10 w10 hg10 M => C1 M 0 rfl rfl AZ rfl fun w11 M => yb rfl (AC (AA (AD (AB (yb rfl (yb rfl (fvm M 5 [10, 28, 27, 26, 2, 1] [(45, .bool ((BK m.els u.frm).isSome && (decide (u.tg = id))))] ?_ (fun k40 => ?_)))))))))
    ·intro w12 M
     refine yb rfl (fvm M 4 [10, 28, 27, 26, 2, 1] [(50, .bool (((BK m.els u.frm).isSome && (decide (u.tg = id))) && (decide ((((BK m.els u.frm).getD zeroEl).kind.toNat : Int) = (7 : Int)))))] ?_ (fun k46 => ?_))
     ·intro w13 M
      refine AC (AA (AN rfl (fun h50 => ?_) (fun h50 => ?_)))
      ·exact srg (yb rfl (BA M 0 rfl rfl rfl (yb rfl (yb rfl (nq (AI (AM (AE (AE (AM (AE (CD rfl rfl rfl ⟨by rw [RC, if_neg (AS h24), hE, B5 hu, SX, if_pos h50] <;> rfl, M.fr⟩))))))))))))
      ·have h50p := ((DM h50).imp (fun z => ((DM z).imp (fun z => z) (fun z => (odf z)))) (fun z => (odf z)))
       refine AL (AH (AA (AB (ya rfl (BF rfl rfl rfl AO) (yb rfl (AC (fag ⟨i + 1, rfl, (M.pk [2, 3]), ?_, ?_, rfl⟩)))))))
       ·omega
       ·rw [hE, B5 hu, SX, if_neg (AS h50)]
     refine AP (d := 46) rfl (fun h46 => ?_) (fun h46 => ?_)
     ·exact gyq rfl (CH M 0 rfl rfl rfl (yd rfl (C3 rfl rfl rfl) (yb rfl (k46 M ⟨rfl, rfl, rfl, rfl, rfl, rfl, (by rw [h46]; rfl), trivial⟩))))
     ·exact yo rfl (yo rfl (yo rfl (yb rfl (k46 M ⟨rfl, rfl, rfl, rfl, rfl, rfl, (by rw [h46]; rfl), trivial⟩))))
    refine AP (d := 40) rfl (fun h40 => ?_) (fun h40 => ?_)
    ·exact gyq rfl (CH M 1 rfl rfl rfl (gyq rfl (yd rfl (D8 rfl rfl rfl) (yb rfl (k40 M ⟨rfl, rfl, rfl, rfl, rfl, rfl, (by rw [h40]; rfl), trivial⟩)))))
    ·iterate 4 refine yo rfl ?_
     exact yb rfl (k40 M ⟨rfl, rfl, rfl, rfl, rfl, rfl, (by rw [h40]; rfl), trivial⟩)
   ·have h29p := (odf h29)
    refine BG (AJ (AJ (AY (AA (srg (yb rfl (yb rfl (nq (AI (CD rfl rfl rfl ?_))))))))))
    obtain rfl : i = m.fls.length := by omega
    exact ⟨by rw [RC, if_neg (AS h24), hE, List.drop_length]; rfl, M.fr⟩
 refine AP (d := 20) rfl (fun h20 => ?_) (fun h20 => ?_)
 ·exact yo rfl (yo rfl (yo rfl (yb rfl (k20 M ⟨rfl, rfl, (by rw [h20]; rfl), trivial⟩))))
 ·exact gyq rfl (CH M 0 rfl rfl rfl (yd rfl (DC rfl rfl rfl) (yb rfl (k20 M ⟨rfl, rfl, (by rw [h20]; rfl), trivial⟩))))
end Go.Proofs.YtjaocmocdhckaaaGreatDoor
