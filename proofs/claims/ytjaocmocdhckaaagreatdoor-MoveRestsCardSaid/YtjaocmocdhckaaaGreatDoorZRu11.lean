/- Lemmas that the last text rests on. Condition: each says its own. -/
import Derived.Test.YtjaocmocdhckaaaGreatDoorZRu3
import Derived.Test.YtjaocmocdhckaaaGreatDoorZRu9
set_option maxHeartbeats 16000000
set_option maxRecDepth 100000
namespace Go.Proofs.YtjaocmocdhckaaaGreatDoor
open Go.RowKit
open Tryz
theorem TV (l : List El) (id : List UInt8) : ∀ i, ffN (fun (_ : Nat) (b : El) => !(decide (b.id = id))) i l = BK l id := by
 induction l with
 | nil => intro i; rfl
 | cons x r ih =>
  intro i
  rw [ffN, BK]
  by_cases h : x.id = id
  ·rw [if_neg (by simp [h]), if_pos h]
  ·rw [if_pos (by simp [h]), if_neg h]; exact ih (i + 1)
section
variable {α : Type} {p : α → Bool} {f : α → List UInt8} {l l' : List α} {x : α} {acc : List (List UInt8)} (h : acc = (l.filter p).map f) (hl : l' = l ++ [x])
include h hl
theorem QW (hp : p x = true) : acc ++ [f x] = (l'.filter p).map f := by rw [hl, List.filter_append, List.map_append, h]; simp [hp]
theorem VD (hp : p x = false) : acc = (l'.filter p).map f := by rw [hl, List.filter_append, List.map_append, h]; simp [hp]
end
def DS (m : Md) (id : List UInt8) : List (List UInt8) := (m.els.filter (fun u => ((decide ((u.kind.toNat : Int) = (9 : Int))) && (decide (u.att = id))))).map (fun u => u.id)
def Q8 (m : Md) (id : List UInt8) : List Fl → Option (List UInt8)
 | [] => none
 | u :: r => if ((((BK m.els u.frm).isSome) && (decide (u.tg = id))) && (decide ((((BK m.els u.frm).getD zeroEl).kind.toNat : Int) = (7 : Int)))) = true then some ((BK m.els u.frm).getD zeroEl).id else Q8 m id r
def MA (m : Md) (id : List UInt8) : List UInt8 × Bool :=
 if ((!((BK m.els id).isSome)) || (!decide ((((BK m.els id).getD zeroEl).kind.toNat : Int) = (8 : Int)))) = true then ([], false)
 else match Q8 m id m.fls with
  | some k => (k, true)
  | none => ([], false)
theorem SI  : prog.built 69 [] = some #[str [], str [], .int .u8 0, str [], str [], str [], .int .u8 0, str [], str [], AJ 0, AJ 0] := by kernel_rfl
theorem jL (g3 : Nat) (id : List UInt8) (x : El) (w : World) (hb : Blk w g3 9 [str id]) :
 Calls prog 154 #[.agg x.cells.toArray, pg g3] w (CG w (.bool (decide (x.id = id)))) := by
 refine C5 func154 ntmps154 rfl fun M => srg (CR M rfl rfl fun g2 w1 hg2 M => AY rfl (AQ rfl (BC M 0 rfl rfl rfl (yl rfl rfl (Blk.c (hb.fr0 M.fr) 0 rfl) (ya rfl (DM rfl rfl rfl) (yb rfl (AR ?_)))))))
 exact AD (BN (gr1 rfl ⟨rfl, M.fr⟩))
theorem nP (g3 : Nat) (id : List UInt8) (x : Fl) (w : World) (hb : Blk w g3 9 [str id]) :
 Calls prog 49 #[.agg x.cells.toArray, pg g3] w (CG w (.bool (decide (x.tg = id)))) := by
 refine C5 func49 ntmps49 rfl fun M => srg (CR M rfl rfl fun g2 w1 hg2 M => AY rfl (AQ rfl (BC M 0 rfl rfl rfl (yl rfl rfl (Blk.c (hb.fr0 M.fr) 0 rfl) (ya rfl (DM rfl rfl rfl) (yb rfl (AR ?_)))))))
 exact AD (BN (gr1 rfl ⟨rfl, M.fr⟩))
theorem hG (g3 : Nat) (id : List UInt8) (x : Fl) (w : World) (hb : Blk w g3 9 [str id]) :
 Calls prog 50 #[.agg x.cells.toArray, pg g3] w (CG w (.bool (decide (x.frm = id)))) := by
 refine C5 func50 ntmps50 rfl fun M => srg (CR M rfl rfl fun g2 w1 hg2 M => AY rfl (AQ rfl (BC M 0 rfl rfl rfl (yl rfl rfl (Blk.c (hb.fr0 M.fr) 0 rfl) (ya rfl (DM rfl rfl rfl) (yb rfl (AR ?_)))))))
 exact AD (BN (gr1 rfl ⟨rfl, M.fr⟩))
theorem aB (m : Md) (a : MdA) (id : List UInt8) (w : World) (ho : MdOk m) (hM : MdIn w m a) :
 Calls prog 124 #[.agg (Md.cells m a).toArray, str id] w (CG w (.tuple #[.agg (((BK m.els id).getD zeroEl).cells).toArray, .bool (BK m.els id).isSome])) := by
 have hne := ho.nels
 have hnf := ho.nfls
 refine C5 func124 ntmps124 rfl fun M => srg (CR M rfl rfl fun g2 w1 hg2 M => E3 M (AA rfl) rfl rfl 9 rfl rfl ([str id]) rfl fun g3 w2 hg3 M => DC M rfl B6 fun g4 w3 hg4 M => AY rfl (AQ rfl (BC M 2 rfl rfl rfl ?_)))
 refine ya rfl (DE (us := []) (vs := [pg g3]) rfl rfl rfl) (cl 10 rfl (AP rfl rfl call33) (QQ El.cells El.len a.E a.ec m.els AM 154 [pg g3] (fun (_ : Nat) (b : El) => !(!(decide (b.id = id)))) B0 (fun _ _ => True) _ (GN call154 (fun x _ w9 hf9 => (jL g3 id x w9 ((M.blk 1 rfl).fr0 hf9)).mono fun _ _ ⟨h1, h2⟩ => ⟨by rw [h1, Bool.not_not], h2⟩)) (fun _ hf9 => (hM.els.fr0 M.fr).fr0 hf9) trivial) ?_)
 rintro _ w4 ⟨rfl, _, hfw4⟩
 refine ⟨_, rfl, ?_⟩
 have M := M.step hfw4
 refine AY rfl (AF (AQ rfl (CF rfl rfl (nq (AL rfl (fun h12 => ?_) (fun h12 => ?_))))))
 ·have h12p := (odt h12)
  have hff := NT (p := (fun (_ : Nat) (b : El) => !(decide (b.id = id)))) h12p
  rw [TV] at hff
  exact srg (ya rfl (BA (parts := []) rfl rfl (SI)) (C4 M 0 rfl rfl B2 rfl fun w5 M => yb rfl (gnr (AB (B9 rfl rfl (M.rdBlk 0 rfl rfl) underlying69 rfl B2 rfl ⟨by rw [hff]; rfl, M.fr⟩)))))
 ·have h12p := (odf h12)
  obtain ⟨j, x, hj, hx, hff⟩ := NU (p := (fun (_ : Nat) (b : El) => !(decide (b.id = id)))) h12p
  have hjl : j < m.els.length := (List.getElem?_eq_some_iff.1 hx).1
  rw [hj]
  obtain ⟨b_x, o_x, hA_x⟩ := BI (k := 11) AM (M.rd hM.els) hx
  rw [TV] at hff
  refine AI (AD (AQ rfl (BC M 2 rfl rfl rfl (yb rfl (ya rfl (B1 j hA_x rfl rfl rfl (sl rfl) AM) (ya rfl (AU rfl rfl (BV El.len (M.rd hM.els) hA_x hx) underlying69 rfl B2) (C4 M 0 rfl rfl B2 rfl fun w6 M => yb rfl (gnr (B9 rfl rfl (M.rdBlk 0 rfl rfl) underlying69 rfl B2 rfl ?_)))))))))
  exact ⟨by rw [hff]; rfl, M.fr⟩
theorem WV (m : Md) (a : MdA) (f : FuncId) (cs : List Value) (p : Fl → Bool) (w : World) (ho : MdOk m) (hM : MdIn w m a) (hfn : ∀ (ar : Array Value) (w : World), (callFunc f ar).run prog w = .ok (.enter f ar) w)
 (hp : ∀ x ∈ m.fls, ∀ W, Fr0 w W → Calls prog f (.agg x.cells.toArray :: cs).toArray W fun e W' => e = .returned (.bool (p x)) ∧ Fr0 W W') :
 Calls prog 48 #[.agg (Md.cells m a).toArray, .func (.func f) #[] cs.toArray] w fun e w' => ∃ A c, e = .returned (.slice A ((m.fls.filter (fun u => p u)).map (fun u => u.id)).length c) ∧ w'.ownsRow w.heap.size 9 1 (.slice A ((m.fls.filter (fun u => p u)).map (fun u => u.id)).length c) ((m.fls.filter (fun u => p u)).map (fun u => u.id)).length (AH BY ((m.fls.filter (fun u => p u)).map (fun u => u.id))) ∧ Fr0 w w' := by
 have hne := ho.nels
 have hnf := ho.nfls
 refine C5 func48 ntmps48 rfl fun M => srg (CR M rfl rfl fun g2 w1 hg2 M => AY rfl (srg (AY rfl (AF (srg ?_)))))
 refine yb rfl (BC M 0 rfl rfl rfl (ya rfl (C3 rfl rfl (sl rfl)) (AY rfl (AS ?_))))
 have M := M.nilOwn 9 1
 refine flp [10, 9, 1] (fun ze e wr mz => ∃ (i : Nat) (acc : List (List UInt8)) (A : Option Addr) (c : Nat), e = (5, .slice A acc.length c) :: (11, AJ ((i : Nat) : Int)) :: ze ∧ Mem w B0 [As.own w.heap.size 9 1 (.slice A acc.length c) acc.length (AH BY acc), As.blk g2 26 (Md.cells m a)] wr ∧ (i ≤ m.fls.length) ∧ (acc = ((m.fls.take i).filter (fun u => p u)).map (fun u => u.id)) ∧ (acc.length ≤ i) ∧ mz = m.fls.length - i) ⟨0, [], none, 0, rfl, M, Nat.zero_le _, rfl, Nat.le_refl _, rfl⟩ ?_
 rintro _ w2 _ ⟨i, acc, A, c, rfl, M, hi, hacc, hal, rfl⟩
 refine srg (CF rfl rfl (nq (AF (AL rfl (fun h12 => ?_) (fun h12 => ?_)))))
 ·have h12p := (odt h12)
  refine AI (AD (AF (AS (srg ?_))))
  obtain ⟨u, hu⟩ := CC (l := m.fls) (i := i) AM
  obtain ⟨b_u, o_u, hA_u⟩ := BI (k := 4) AM (M.rd hM.fls) hu
  refine ya rfl (B1 i hA_u rfl rfl rfl (sl rfl) AM) (ya rfl (AU rfl rfl (BV Fl.len (M.rd hM.fls) hA_u hu) underlying72 rfl D3) (DC M rfl FF fun g7 w3 hg7 M => C4 M 0 rfl rfl D3 rfl fun w4 M => nq (AQ rfl (CW M 0 rfl rfl underlying72 D3 rfl (OZ M 17 rfl (BX rfl rfl rfl hfn) (hp u (List.mem_of_getElem? hu) _ M.fr) fun w5 M => nq (AL rfl (fun h17 => ?_) (fun h17 => ?_)))))))
  ·refine AK (BM rfl rfl (BC M 0 rfl rfl rfl (DF M (AA rfl) rfl rfl [str u.id] ([str u.id]) rfl rfl rfl rfl underlying36 D1 rfl rfl (HE rfl) rfl fun g21 w6 hg21 M => EH (len' := (acc ++ [u.id]).length) (xs' := AH BY (acc ++ [u.id])) M 2 (AA rfl) rfl rfl rfl rfl rfl rfl (M.rdBlk 0 rfl rfl) underlying36 DG rfl BU (BP rfl) (Nat.le_refl _) (Nat.le_refl _) CX (by unfold maxLen; first | omega | (simp only [List.length_append, List.length_cons, List.length_nil]; omega)) (by simp) (by simp [AH, BY]) fun A22 c22 w7 M => yb rfl (AR (AE (AD (AK (ya rfl (BO rfl rfl rfl AM) (yb rfl (AR ?_))))))))))
   refine fag ⟨i + 1, acc ++ [u.id], A22, c22, rfl, (M.pk [2, 3]), ?_, ?_, ?_, rfl⟩
   ·omega
   ·first
     | exact QW hacc (B4 hu) h17
     | exact VD hacc (B4 hu) h17
   ·first | omega | (simp only [List.length_append, List.length_cons, List.length_nil]; omega)
  ·refine AI (AE (AD (AK (ya rfl (BO rfl rfl rfl AM) (yb rfl (AR (fag ⟨i + 1, acc, A, c, rfl, (M.pk [1, 2]), ?_, ?_, ?_, rfl⟩)))))))
   ·omega
   ·first
     | exact QW hacc (B4 hu) h17
     | exact VD hacc (B4 hu) h17
   ·first | omega | (simp only [List.length_append, List.length_cons, List.length_nil]; omega)
 ·have h12p := (odf h12)
  refine BF (AG (AG ?_))
  have hiE : i = m.fls.length := by omega
  rw [hiE, List.take_length] at hacc
  refine AV (AD (AQ rfl (yb rfl (gnr (gr1 rfl ?_)))))
  rw [← hacc]
  exact ⟨_, _, rfl, M.own 0 rfl, M.fr⟩
theorem nN (m : Md) (a : MdA) (id : List UInt8) (w : World) (ho : MdOk m) (hM : MdIn w m a) :
 Calls prog 17 #[.agg (Md.cells m a).toArray, str id] w fun e w' => ∃ A c, e = .returned (.slice A ((EC m.fls id).map (fun u => u.id)).length c) ∧ w'.ownsRow w.heap.size 9 1 (.slice A ((EC m.fls id).map (fun u => u.id)).length c) ((EC m.fls id).map (fun u => u.id)).length (AH BY ((EC m.fls id).map (fun u => u.id))) ∧ Fr0 w w' := by
 refine C5 func17 ntmps17 rfl fun M => srg (CR M rfl rfl fun g2 w1 hg2 M => E3 M (AA rfl) rfl rfl 9 rfl rfl ([str id]) rfl fun g3 w2 hg3 M => AY rfl (srg (CW M 1 rfl rfl underlying26 C0 rfl (ya rfl (DE (us := []) (vs := [pg g3]) rfl rfl rfl) (cl 7 rfl (AP rfl rfl call48) (WV m a 49 [pg g3] (fun u => decide (u.tg = id)) _ ho (hM.fr0 M.fr) call49 (fun x _ W hW => nP g3 id x W ((M.blk 0 rfl).fr0 hW))) ?_)))))
 rintro _ w3 ⟨A7, c7, rfl, how3, hfw3⟩
 refine ⟨_, rfl, ?_⟩
 have M := M.pushOwn hfw3 (Nat.le_refl _) how3
 exact yb rfl (gnr (gr1 rfl ⟨_, _, rfl, M.own 0 rfl, M.fr⟩))
theorem gY (m : Md) (a : MdA) (id : List UInt8) (w : World) (ho : MdOk m) (hM : MdIn w m a) :
 Calls prog 18 #[.agg (Md.cells m a).toArray, str id] w fun e w' => ∃ A c, e = .returned (.slice A ((CE m.fls id).map (fun u => u.id)).length c) ∧ w'.ownsRow w.heap.size 9 1 (.slice A ((CE m.fls id).map (fun u => u.id)).length c) ((CE m.fls id).map (fun u => u.id)).length (AH BY ((CE m.fls id).map (fun u => u.id))) ∧ Fr0 w w' := by
 refine C5 func18 ntmps18 rfl fun M => srg (CR M rfl rfl fun g2 w1 hg2 M => E3 M (AA rfl) rfl rfl 9 rfl rfl ([str id]) rfl fun g3 w2 hg3 M => AY rfl (srg (CW M 1 rfl rfl underlying26 C0 rfl (ya rfl (DE (us := []) (vs := [pg g3]) rfl rfl rfl) (cl 7 rfl (AP rfl rfl call48) (WV m a 50 [pg g3] (fun u => decide (u.frm = id)) _ ho (hM.fr0 M.fr) call50 (fun x _ W hW => hG g3 id x W ((M.blk 0 rfl).fr0 hW))) ?_)))))
 rintro _ w3 ⟨A7, c7, rfl, how3, hfw3⟩
 refine ⟨_, rfl, ?_⟩
 have M := M.pushOwn hfw3 (Nat.le_refl _) how3
 exact yb rfl (gnr (gr1 rfl ⟨_, _, rfl, M.own 0 rfl, M.fr⟩))
theorem I8 (m : Md) (a : MdA) (id : List UInt8) (w : World) (ho : MdOk m) (hM : MdIn w m a) :
 Calls prog 69 #[.agg (Md.cells m a).toArray, str id] w fun e w' => ∃ A c, e = .returned (.slice A (B5 m.els id).length c) ∧ w'.ownsRow w.heap.size 9 1 (.slice A (B5 m.els id).length c) (B5 m.els id).length (AH BY (B5 m.els id)) ∧ Fr0 w w' := by
 refine C5 func69 ntmps69 rfl fun M => srg (CR M rfl rfl fun g2 w1 hg2 M => AY rfl (srg (CW M 0 rfl rfl underlying26 C0 rfl (cl 6 rfl (AP rfl rfl call35) (RU m a _ ho (hM.fr0 M.fr)) ?_))))
 rintro _ w2 ⟨ix, gx, FX, rfl, hix, hnx, hfw2⟩
 refine ⟨_, rfl, ?_⟩
 have M := M.push hfw2 (As.ixp m a ix gx FX) hix hnx
 refine yb rfl (cl 8 rfl (AP rfl rfl call99) (U3 m a ix gx id _ ho (IxN.at (M.ok 0 _ rfl) (hM.fr0 M.fr))) ?_)
 rintro _ w3 ⟨A8, c8, rfl, how3, hfw3⟩
 refine ⟨_, rfl, ?_⟩
 have M := M.pushOwn hfw3 (Nat.le_refl _) how3
 have hL8 := M.ownLen 0 rfl
 exact yb rfl (gnr (gr1 rfl ⟨_, _, rfl, M.own 0 rfl, M.fr⟩))
theorem MK (m : Md) (a : MdA) (id : List UInt8) (w : World) (ho : MdOk m) (hM : MdIn w m a) :
 Calls prog 70 #[.agg (Md.cells m a).toArray, str id] w fun e w' => ∃ A c, e = .returned (.slice A (DS m id).length c) ∧ w'.ownsRow w.heap.size 9 1 (.slice A (DS m id).length c) (DS m id).length (AH BY (DS m id)) ∧ Fr0 w w' := by
 have hne := ho.nels
 have hnf := ho.nfls
 refine C5 func70 ntmps70 rfl fun M => srg (CR M rfl rfl fun g2 w1 hg2 M => AY rfl (srg (AY rfl (AF (srg ?_)))))
 refine yb rfl (BC M 0 rfl rfl rfl (ya rfl (C3 rfl rfl (sl rfl)) (AY rfl (AS ?_))))
 have M := M.nilOwn 9 1
 refine flp [10, 9, 1] (fun ze e wr mz => ∃ (i : Nat) (acc : List (List UInt8)) (A : Option Addr) (c : Nat), e = (5, .slice A acc.length c) :: (11, AJ ((i : Nat) : Int)) :: ze ∧ Mem w B0 [As.own w.heap.size 9 1 (.slice A acc.length c) acc.length (AH BY acc), As.blk g2 26 (Md.cells m a)] wr ∧ (i ≤ m.els.length) ∧ (acc = ((m.els.take i).filter (fun u => ((decide ((u.kind.toNat : Int) = (9 : Int))) && (decide (u.att = id))))).map (fun u => u.id)) ∧ (acc.length ≤ i) ∧ mz = m.els.length - i) ⟨0, [], none, 0, rfl, M, Nat.zero_le _, rfl, Nat.le_refl _, rfl⟩ ?_
 rintro _ w2 _ ⟨i, acc, A, c, rfl, M, hi, hacc, hal, rfl⟩
 refine srg (CF rfl rfl (nq (AF (AL rfl (fun h12 => ?_) (fun h12 => ?_)))))
 ·have h12p := (odt h12)
  refine AI (AD (AF (AS (srg ?_))))
  obtain ⟨u, hu⟩ := CC (l := m.els) (i := i) AM
  obtain ⟨b_u, o_u, hA_u⟩ := BI (k := 11) AM (M.rd hM.els) hu
  refine ya rfl (B1 i hA_u rfl rfl rfl (sl rfl) AM) (ya rfl (AU rfl rfl (BV El.len (M.rd hM.els) hA_u hu) underlying69 rfl B2) (DC M rfl B6 fun g7 w3 hg7 M => C4 M 0 rfl rfl B2 rfl fun w4 M => nq (AQ rfl (BC M 0 rfl rfl rfl (CN rfl rfl (yb rfl (fvm M 5 [7, 11, 10, 9, 5, 1] [(23, .bool ((decide ((u.kind.toNat : Int) = (9 : Int))) && (decide (u.att = id))))] ?_ (fun k18 => ?_))))))))
  ·intro w5 M
   refine nq (AL rfl (fun h23 => ?_) (fun h23 => ?_))
   ·have h23p := (And.intro (odt (CL h23).1) (odt (CL h23).2))
    refine AK (BM rfl rfl (BC M 0 rfl rfl rfl (DF M (AA rfl) rfl rfl [str u.id] ([str u.id]) rfl rfl rfl rfl underlying36 D1 rfl rfl (HE rfl) rfl fun g27 w6 hg27 M => EH (len' := (acc ++ [u.id]).length) (xs' := AH BY (acc ++ [u.id])) M 2 (AA rfl) rfl rfl rfl rfl rfl rfl (M.rdBlk 0 rfl rfl) underlying36 DG rfl BU (BP rfl) (Nat.le_refl _) (Nat.le_refl _) CX (by unfold maxLen; first | omega | (simp only [List.length_append, List.length_cons, List.length_nil]; omega)) (by simp) (by simp [AH, BY]) fun A28 c28 w7 M => yb rfl (AR (AE (AD (AK (ya rfl (BO rfl rfl rfl AM) (yb rfl (AR ?_))))))))))
    refine fag ⟨i + 1, acc ++ [u.id], A28, c28, rfl, (M.pk [2, 3]), ?_, ?_, ?_, rfl⟩
    ·omega
    ·first
      | exact QW hacc (B4 hu) h23
      | exact VD hacc (B4 hu) h23
    ·first | omega | (simp only [List.length_append, List.length_cons, List.length_nil]; omega)
   ·have h23p := ((DT h23).imp (fun z => (odf z)) (fun z => (odf z)))
    refine AI (AE (AD (AK (ya rfl (BO rfl rfl rfl AM) (yb rfl (AR (fag ⟨i + 1, acc, A, c, rfl, (M.pk [1, 2]), ?_, ?_, ?_, rfl⟩)))))))
    ·omega
    ·first
      | exact QW hacc (B4 hu) h23
      | exact VD hacc (B4 hu) h23
    ·first | omega | (simp only [List.length_append, List.length_cons, List.length_nil]; omega)
  refine AO (d := 18) rfl (fun h18 => ?_) (fun h18 => ?_)
  ·exact gyq rfl (CJ M 0 rfl rfl rfl (gyq rfl (yd rfl (DM rfl rfl rfl) (yb rfl (k18 M ⟨rfl, rfl, rfl, rfl, rfl, rfl, (by rw [h18]; rfl), trivial⟩)))))
  ·iterate 4 refine yo rfl ?_
   exact yb rfl (k18 M ⟨rfl, rfl, rfl, rfl, rfl, rfl, (by rw [h18]; rfl), trivial⟩)
 ·have h12p := (odf h12)
  refine BF (AG (AG ?_))
  have hiE : i = m.els.length := by omega
  rw [hiE, List.take_length] at hacc
  refine AV (AD (AQ rfl (yb rfl (gnr (gr1 rfl ?_)))))
  have hbp : DS m id = acc := hacc.symm
  rw [hbp]
  exact ⟨_, _, rfl, M.own 0 rfl, M.fr⟩
theorem j8 (m : Md) (a : MdA) (id : List UInt8) (w : World) (ho : MdOk m) (hM : MdIn w m a) :
 Calls prog 66 #[.agg (Md.cells m a).toArray, str id] w (CG w (.tuple #[str (MA m id).1, .bool (MA m id).2])) := by
 have hne := ho.nels
 have hnf := ho.nfls
 refine C5 func66 ntmps66 rfl fun M => srg (CR M rfl rfl fun g2 w1 hg2 M => yb rfl (AY rfl (AF (srg (CW M 0 rfl rfl underlying26 C0 rfl (yb rfl (D4 M 15 rfl rfl call124 (aB m a id _ ho (hM.fr0 M.fr)) fun w2 M => yb rfl ?_)))))))
 refine BM rfl rfl (DC M rfl B6 fun g6 w3 hg6 M => C4 M 0 rfl rfl B2 rfl fun w4 M => AY rfl (AQ rfl (BM rfl rfl (fvm M 4 [2, 1] [(24, .bool ((!(BK m.els id).isSome) || (!decide ((((BK m.els id).getD zeroEl).kind.toNat : Int) = (8 : Int)))))] ?_ (fun k20 => ?_)))))
 ·intro w5 M
  refine nq (AL rfl (fun h24 => ?_) (fun h24 => ?_))
  ·have h24p := ((EO h24).imp (fun z => (CK z)) (fun z => (odf (CK z))))
   exact AQ rfl (yb rfl (gnr (AB (CI rfl rfl rfl ⟨by rw [MA, if_pos h24] <;> rfl, M.fr⟩))))
  ·have h24p := (And.intro (BQ (CP h24).1) (odt (BQ (CP h24).2)))
   refine AI (AD (AF (AQ rfl (BC M 1 rfl rfl rfl (ya rfl (C3 rfl rfl (sl rfl)) (AY rfl (AS (flp [27, 26, 2, 1] (fun ze e wr mz => ∃ (i : Nat), e = (28, AJ ((i : Nat) : Int)) :: ze ∧ Mem w B0 [As.blk g6 69 (El.cells ((BK m.els id).getD zeroEl)), As.blk g2 26 (Md.cells m a)] wr ∧ (i ≤ m.fls.length) ∧ (Q8 m id m.fls = Q8 m id (m.fls.drop i)) ∧ mz = m.fls.length - i) ⟨0, rfl, M, Nat.zero_le _, rfl, rfl⟩ ?_))))))))
   rintro _ w6 _ ⟨i, rfl, M, hi, hE, rfl⟩
   refine srg (CF rfl rfl (nq (AF (AL rfl (fun h29 => ?_) (fun h29 => ?_)))))
   ·have h29p := (odt h29)
    refine AI (AD (AF (AS (srg ?_))))
    obtain ⟨u, hu⟩ := CC (l := m.fls) (i := i) AM
    obtain ⟨b_u, o_u, hA_u⟩ := BI (k := 4) AM (M.rd hM.fls) hu
    refine ya rfl (B1 i hA_u rfl rfl rfl (sl rfl) AM) (ya rfl (AU rfl rfl (BV Fl.len (M.rd hM.fls) hA_u hu) underlying72 rfl D3) (DC M rfl FF fun g9 w7 hg9 M => C4 M 0 rfl rfl D3 rfl fun w8 M => N2 (CW M 2 rfl rfl underlying26 C0 rfl (yb rfl (BC M 0 rfl rfl rfl (D4 M 36 rfl rfl call124 (aB m a u.frm _ ho (hM.fr0 M.fr)) fun w9 M => BM rfl rfl ?_))))))
    refine yb rfl (DC M rfl B6 fun g10 w10 hg10 M => C4 M 0 rfl rfl B2 rfl fun w11 M => AY rfl (AQ rfl (yb rfl (fvm M 5 [10, 28, 27, 26, 2, 1] [(45, .bool ((BK m.els u.frm).isSome && (decide (u.tg = id))))] ?_ (fun k40 => ?_)))))
    ·intro w12 M
     refine yb rfl (fvm M 4 [10, 28, 27, 26, 2, 1] [(50, .bool (((BK m.els u.frm).isSome && (decide (u.tg = id))) && (decide ((((BK m.els u.frm).getD zeroEl).kind.toNat : Int) = (7 : Int)))))] ?_ (fun k46 => ?_))
     ·intro w13 M
      refine nq (AL rfl (fun h50 => ?_) (fun h50 => ?_))
      ·exact AQ rfl (BC M 0 rfl rfl rfl (BM rfl rfl (gnr (AN (AB (AB (AN (AB (CI rfl rfl rfl ⟨by rw [MA, AT h24, hE, B7 hu, Q8, if_pos h50] <;> rfl, M.fr⟩)))))))))
      ·have h50p := ((DT h50).imp (fun z => ((DT z).imp (fun z => z) (fun z => (odf z)))) (fun z => (odf z)))
       refine AI (AE (AD (AK (ya rfl (BO rfl rfl rfl AM) (yb rfl (AR (fag ⟨i + 1, rfl, (M.pk [2, 3]), ?_, ?_, rfl⟩)))))))
       ·omega
       ·rw [hE, B7 hu, Q8, AT h50]
     refine AO (d := 46) rfl (fun h46 => ?_) (fun h46 => ?_)
     ·exact gyq rfl (CJ M 0 rfl rfl rfl (yd rfl (BZ rfl rfl rfl) (yb rfl (k46 M ⟨rfl, rfl, rfl, rfl, rfl, rfl, (by rw [h46]; rfl), trivial⟩))))
     ·exact yo rfl (yo rfl (yo rfl (yb rfl (k46 M ⟨rfl, rfl, rfl, rfl, rfl, rfl, (by rw [h46]; rfl), trivial⟩))))
    refine AO (d := 40) rfl (fun h40 => ?_) (fun h40 => ?_)
    ·exact gyq rfl (CJ M 1 rfl rfl rfl (gyq rfl (yd rfl (DM rfl rfl rfl) (yb rfl (k40 M ⟨rfl, rfl, rfl, rfl, rfl, rfl, (by rw [h40]; rfl), trivial⟩)))))
    ·iterate 4 refine yo rfl ?_
     exact yb rfl (k40 M ⟨rfl, rfl, rfl, rfl, rfl, rfl, (by rw [h40]; rfl), trivial⟩)
   ·have h29p := (odf h29)
    refine BF (AG (AG (AV (AD (AQ rfl (yb rfl (gnr (CI rfl rfl rfl ?_))))))))
    obtain rfl : i = m.fls.length := by omega
    exact ⟨by rw [MA, AT h24, hE, List.drop_length]; rfl, M.fr⟩
 refine AO (d := 20) rfl (fun h20 => ?_) (fun h20 => ?_)
 ·exact yo rfl (yo rfl (yo rfl (yb rfl (k20 M ⟨rfl, rfl, (by rw [h20]; rfl), trivial⟩))))
 ·exact gyq rfl (CJ M 0 rfl rfl rfl (yd rfl (E4 rfl rfl rfl) (yb rfl (k20 M ⟨rfl, rfl, (by rw [h20]; rfl), trivial⟩))))
end Go.Proofs.YtjaocmocdhckaaaGreatDoor
