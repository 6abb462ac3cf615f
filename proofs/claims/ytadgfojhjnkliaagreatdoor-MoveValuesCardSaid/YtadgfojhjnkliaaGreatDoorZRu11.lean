/- Lemmas that the last text rests on. Condition: each says its own. -/
import Derived.Test.YtadgfojhjnkliaaGreatDoorZRu3
import Derived.Test.YtadgfojhjnkliaaGreatDoorZRu9
set_option maxHeartbeats 16000000
set_option maxRecDepth 100000
namespace Go.Proofs.YtadgfojhjnkliaaGreatDoor
open Go.RowKit
open Tryz
theorem TE (l : List El) (id : List UInt8) : ∀ i, ffN (fun (_ : Nat) (b : El) => !(decide (b.id = id))) i l = AS l id := by
 induction l with
 | nil => intro i; rfl
 | cons x r ih =>
  intro i
  rw [ffN, AS]
  by_cases h : x.id = id
  ·rw [if_neg (by simp [h]), if_pos h]
  ·rw [if_pos (by simp [h]), if_neg h]; exact ih (i + 1)
section
variable {α : Type} {p : α → Bool} {f : α → List UInt8} {l l' : List α} {x : α} {acc : List (List UInt8)} (h : acc = (l.filter p).map f) (hl : l' = l ++ [x])
include h hl
theorem PO (hp : p x = true) : acc ++ [f x] = (l'.filter p).map f := by rw [hl, List.filter_append, List.map_append, h]; simp [hp]
theorem V2 (hp : p x = false) : acc = (l'.filter p).map f := by rw [hl, List.filter_append, List.map_append, h]; simp [hp]
end
def CS (m : Md) (id : List UInt8) : List (List UInt8) := (m.els.filter (fun u => ((decide ((u.kind.toNat : Int) = (9 : Int))) && (decide (u.att = id))))).map (fun u => u.id)
def T3 (m : Md) (id : List UInt8) : List Fl → Option (List UInt8)
 | [] => none
 | u :: r => if ((((AS m.els u.frm).isSome) && (decide (u.tg = id))) && (decide ((((AS m.els u.frm).getD zeroEl).kind.toNat : Int) = (7 : Int)))) = true then some ((AS m.els u.frm).getD zeroEl).id else T3 m id r
def OP (m : Md) (id : List UInt8) : List UInt8 × Bool :=
 if ((!((AS m.els id).isSome)) || (!decide ((((AS m.els id).getD zeroEl).kind.toNat : Int) = (8 : Int)))) = true then ([], false)
 else match T3 m id m.fls with
  | some k => (k, true)
  | none => ([], false)
theorem RQ  : prog.built 62 [] = some #[str [], str [], .int .u8 0, str [], str [], str [], .int .u8 0, str [], str [], .int .i64 0, .int .i64 0] := by kernel_rfl
theorem jZ (g3 : Nat) (id : List UInt8) (x : El) (w : World) (hb : Blk w g3 9 [str id]) :
 Calls prog 144 #[.agg x.cells.toArray, pg g3] w fun e w' => e = .returned (.bool (decide (x.id = id))) ∧ Fr0 w w' := by
 refine AK (vs := [_, _]) func144 rfl ntmps144 rfl ?_
 have M := CK w
 refine A4 (A0 (BD M (A9 rfl) rfl rfl 62 rfl rfl (El.cells x) rfl fun g2 w1 hg2 M => yb rfl (A1 (A2 (A4 (A0 (yb rfl (yl rfl rfl (M.cell 0 rfl rfl) (yl rfl rfl (Blk.c (hb.fr0 M.fr) 0 rfl) (ya rfl (DG rfl rfl rfl) (yb rfl (A1 (A2 ?_)))))))))))))
 exact AD (AH rfl rfl ⟨rfl, M.fr⟩)
theorem o3 (g3 : Nat) (id : List UInt8) (x : Fl) (w : World) (hb : Blk w g3 9 [str id]) :
 Calls prog 44 #[.agg x.cells.toArray, pg g3] w fun e w' => e = .returned (.bool (decide (x.tg = id))) ∧ Fr0 w w' := by
 refine AK (vs := [_, _]) func44 rfl ntmps44 rfl ?_
 have M := CK w
 refine A4 (A0 (BD M (A9 rfl) rfl rfl 65 rfl rfl (Fl.cells x) rfl fun g2 w1 hg2 M => yb rfl (A1 (A2 (A4 (A0 (yb rfl (yl rfl rfl (M.cell 0 rfl rfl) (yl rfl rfl (Blk.c (hb.fr0 M.fr) 0 rfl) (ya rfl (DG rfl rfl rfl) (yb rfl (A1 (A2 ?_)))))))))))))
 exact AD (AH rfl rfl ⟨rfl, M.fr⟩)
theorem iK (g3 : Nat) (id : List UInt8) (x : Fl) (w : World) (hb : Blk w g3 9 [str id]) :
 Calls prog 45 #[.agg x.cells.toArray, pg g3] w fun e w' => e = .returned (.bool (decide (x.frm = id))) ∧ Fr0 w w' := by
 refine AK (vs := [_, _]) func45 rfl ntmps45 rfl ?_
 have M := CK w
 refine A4 (A0 (BD M (A9 rfl) rfl rfl 65 rfl rfl (Fl.cells x) rfl fun g2 w1 hg2 M => yb rfl (A1 (A2 (A4 (A0 (yb rfl (yl rfl rfl (M.cell 0 rfl rfl) (yl rfl rfl (Blk.c (hb.fr0 M.fr) 0 rfl) (ya rfl (DG rfl rfl rfl) (yb rfl (A1 (A2 ?_)))))))))))))
 exact AD (AH rfl rfl ⟨rfl, M.fr⟩)
theorem aX (m : Md) (a : MdA) (id : List UInt8) (w : World) (ho : MdOk m) (hM : MdIn w m a) :
 Calls prog 111 #[.agg (Md.cells m a).toArray, str id] w fun e w' => e = .returned (.tuple #[.agg (((AS m.els id).getD zeroEl).cells).toArray, .bool (AS m.els id).isSome]) ∧ Fr0 w w' := by
 have hne := ho.nels
 have hnf := ho.nfls
 refine AK (vs := [_, _]) func111 rfl ntmps111 rfl ?_
 have M := CK w
 refine A4 (A0 (BD M (A9 rfl) rfl rfl 26 rfl rfl (Md.cells m a) rfl fun g2 w1 hg2 M => BD M (A9 rfl) rfl rfl 9 rfl rfl ([str id]) rfl fun g3 w2 hg3 M => BI M (A9 rfl) rfl rfl 62 rfl [str [], str [], .int .u8 0, str [], str [], str [], .int .u8 0, str [], str [], .int .i64 0, .int .i64 0] AY rfl fun g4 w3 hg4 M => yb rfl (A1 (A2 (A4 (A0 (yb rfl (yl rfl rfl (M.cell 2 rfl rfl) (ya rfl (CT (us := []) (vs := [pg g3]) rfl rfl rfl) ?_)))))))))
 refine cl 10 rfl (AF rfl rfl call21) (UK El.cells El.len a.E a.ec m.els (by omega) 144 [pg g3] (fun (_ : Nat) (b : El) => !(!(decide (b.id = id)))) AB (fun _ _ => True) _ (GE call144 (fun x _ w9 hf9 => (jZ g3 id x w9 ((M.blk 1 rfl).fr0 hf9)).mono fun _ _ ⟨h1, h2⟩ => ⟨by rw [h1, Bool.not_not], h2⟩)) (fun _ hf9 => (hM.els.fr0 M.fr).fr0 hf9) trivial) ?_
 rintro _ w4 ⟨rfl, _, hfw4⟩
 refine ⟨_, rfl, ?_⟩
 have M := M.step hfw4
 refine yb rfl (A1 (A2 (A4 (A4 (A0 (yb rfl (ya rfl (CH rfl rfl rfl) (A1 (A2 (AQ (b := (decide ((ixJ (fun (_ : Nat) (b : El) => !(!(decide (b.id = id)))) 0 m.els) < (0 : Int)))) rfl (fun h12 => ?_) (fun h12 => ?_)))))))))))
 ·have h12p := (odt h12)
  have hff := LQ (p := (fun (_ : Nat) (b : El) => !(decide (b.id = id)))) h12p
  rw [TE] at hff
  exact A4 (A0 (ya rfl (BO (parts := []) rfl rfl (RQ)) (B5 (cs' := [str [], str [], .int .u8 0, str [], str [], str [], .int .u8 0, str [], str [], .int .i64 0, .int .i64 0]) M 0 (A9 rfl) rfl rfl rfl rfl rfl AU rfl (AP rfl) (AW rfl) rfl fun w5 M => yb rfl (A1 (A2 (AD (AA (G3 rfl rfl (M.rdBlk 0 rfl rfl) underlying62 rfl AU rfl ⟨by rw [hff]; rfl, M.fr⟩))))))))
 ·have h12p := (odf h12)
  obtain ⟨j, x, hj, hx, hff⟩ := LR (p := (fun (_ : Nat) (b : El) => !(decide (b.id = id)))) h12p
  have hjl : j < m.els.length := (List.getElem?_eq_some_iff.1 hx).1
  rw [hj]
  obtain ⟨b_x, o_x, hA_x⟩ := CL (k := 11) (by omega) (M.rd hM.els) hx
  rw [TE] at hff
  refine AL (A2 (A4 (A0 (yb rfl (yl rfl rfl (M.cell 2 rfl rfl) (yb rfl (ya rfl (BW j hA_x rfl rfl rfl (sl rfl) (by omega)) (ya rfl (AN rfl rfl (DK El.len (M.rd hM.els) hA_x hx) underlying62 rfl AU) (B5 (cs' := (El.cells x)) M 0 (A9 rfl) rfl rfl rfl rfl rfl AU rfl (AP rfl) (AW rfl) rfl fun w6 M => yb rfl (A1 (A2 (AD (G3 rfl rfl (M.rdBlk 0 rfl rfl) underlying62 rfl AU rfl ?_)))))))))))))
  exact ⟨by rw [hff]; rfl, M.fr⟩
theorem WK (m : Md) (a : MdA) (f : FuncId) (cs : List Value) (p : Fl → Bool) (w : World) (ho : MdOk m) (hM : MdIn w m a) (hfn : ∀ (ar : Array Value) (w : World), (callFunc f ar).run prog w = .ok (.enter f ar) w)
 (hp : ∀ x ∈ m.fls, ∀ W, Fr0 w W → Calls prog f (.agg x.cells.toArray :: cs).toArray W fun e W' => e = .returned (.bool (p x)) ∧ Fr0 W W') :
 Calls prog 43 #[.agg (Md.cells m a).toArray, .func (.func f) #[] cs.toArray] w fun e w' => ∃ A c, e = .returned (.slice A ((m.fls.filter (fun u => p u)).map (fun u => u.id)).length c) ∧ w'.ownsRow w.heap.size 9 1 (.slice A ((m.fls.filter (fun u => p u)).map (fun u => u.id)).length c) ((m.fls.filter (fun u => p u)).map (fun u => u.id)).length (AR C4 ((m.fls.filter (fun u => p u)).map (fun u => u.id))) ∧ Fr0 w w' := by
 have hne := ho.nels
 have hnf := ho.nfls
 refine AK (vs := [_, _]) func43 rfl ntmps43 rfl ?_
 have M := CK w
 refine A4 (A0 (BD M (A9 rfl) rfl rfl 26 rfl rfl (Md.cells m a) rfl fun g2 w1 hg2 M => yb rfl (A1 (A2 (A4 (A0 (yb rfl (A1 (A2 (A4 (A4 (A0 (yb rfl ?_)))))))))))))
 refine yl rfl rfl (M.cell 0 rfl rfl) (ya rfl (CY rfl rfl (sl rfl)) (yb rfl (A1 (A2 (AV ?_)))))
 have M := M.nilOwn 9 1
 refine CM (fun e wr mz => ∃ (i : Nat) (acc : List (List UInt8)) (A : Option Addr) (c : Nat), e = [(1, .func (.func f) #[] cs.toArray), (5, .slice A acc.length c), (9, .slice a.F m.fls.length a.fc), (10, .int .i64 ((m.fls.length : Nat) : Int)), (11, .int .i64 ((i : Nat) : Int))] ∧ Mem w AB [As.own w.heap.size 9 1 (.slice A acc.length c) acc.length (AR C4 acc), As.blk g2 26 (Md.cells m a)] wr ∧ (i ≤ m.fls.length) ∧ (acc = ((m.fls.take i).filter (fun u => p u)).map (fun u => u.id)) ∧ (acc.length ≤ i) ∧ mz = m.fls.length - i) ⟨0, [], none, 0, rfl, M, Nat.zero_le _, rfl, Nat.le_refl _, rfl⟩ ⟨rfl, rfl, rfl, rfl, rfl, trivial⟩ ?_
 rintro _ w2 _ ⟨i, acc, A, c, rfl, M, hi, hacc, hal, rfl⟩
 refine A4 (A0 (ya rfl (CH rfl rfl rfl) (A1 (A2 (A4 (AQ (b := (decide (((i : Nat) : Int) < ((m.fls.length : Nat) : Int)))) rfl (fun h12 => ?_) (fun h12 => ?_)))))))
 ·have h12p := (odt h12)
  refine AL (A2 (A4 (AV (A4 (A0 ?_)))))
  obtain ⟨u, hu⟩ := DY (l := m.fls) (i := i) (by omega)
  obtain ⟨b_u, o_u, hA_u⟩ := CL (k := 4) (by omega) (M.rd hM.fls) hu
  refine ya rfl (BW i hA_u rfl rfl rfl (sl rfl) (by omega)) (ya rfl (AN rfl rfl (DK Fl.len (M.rd hM.fls) hA_u hu) underlying65 rfl CB) (BI M (A9 rfl) rfl rfl 65 rfl [str [], str [], str [], str []] EF rfl fun g7 w3 hg7 M => B5 (cs' := (Fl.cells u)) M 0 (A9 rfl) rfl rfl rfl rfl rfl CB rfl (AP rfl) (AW rfl) rfl fun w4 M => A1 (A2 (A4 (A0 (yb rfl (ya rfl (AN (xs := Fl.cells u) rfl rfl (M.rdBlk 0 rfl rfl) underlying65 rfl CB) (cp M 17 rfl (C0 rfl rfl rfl hfn) (hp u (List.mem_of_getElem? hu) _ M.fr) fun w5 M => A1 (A2 (AQ (b := (p u)) rfl (fun h17 => ?_) (fun h17 => ?_)))))))))))
  ·refine A0 (yb rfl (yb rfl (yl rfl rfl (M.cell 0 rfl rfl) (F1 M (A9 rfl) rfl rfl [str u.id] ([str u.id]) rfl rfl rfl rfl underlying45 D5 rfl rfl (JL rfl) rfl fun g21 w6 hg21 M => EQ (len' := (acc ++ [u.id]).length) (xs' := AR C4 (acc ++ [u.id])) M 2 (A9 rfl) rfl rfl rfl rfl rfl rfl (M.rdBlk 0 rfl rfl) underlying45 CU rfl (by decide) (AW rfl) (Nat.le_refl _) (Nat.le_refl _) (by first | omega | (simp <;> omega)) (by unfold maxLen; first | omega | (simp only [List.length_append, List.length_cons, List.length_nil]; omega)) (by simp) (by simp [AR, C4]) fun A22 c22 w7 M => yb rfl (A1 (AC (A2 (A0 (ya rfl (CQ rfl rfl rfl (by omega)) (yb rfl (A1 ?_)))))))))))
   refine BM [(1, .func (.func f) #[] cs.toArray), (5, .slice A22 (acc ++ [u.id]).length c22), (9, .slice a.F m.fls.length a.fc), (10, .int .i64 ((m.fls.length : Nat) : Int)), (11, .int .i64 (((i + 1) : Nat) : Int))] (m.fls.length - (i + 1)) ⟨i + 1, acc ++ [u.id], A22, c22, rfl, (M.pk [2, 3]), ?_, ?_, ?_, rfl⟩ (by first | omega | (simp <;> omega)) ⟨rfl, rfl, rfl, rfl, rfl, trivial⟩
   ·omega
   ·first
     | exact PO hacc (BH hu) h17
     | exact V2 hacc (BH hu) h17
   ·first | omega | (simp only [List.length_append, List.length_cons, List.length_nil]; omega)
  ·refine AL (AC (A2 (A0 (ya rfl (CQ rfl rfl rfl (by omega)) (yb rfl (A1 (BM [(1, .func (.func f) #[] cs.toArray), (5, .slice A acc.length c), (9, .slice a.F m.fls.length a.fc), (10, .int .i64 ((m.fls.length : Nat) : Int)), (11, .int .i64 (((i + 1) : Nat) : Int))] (m.fls.length - (i + 1)) ⟨i + 1, acc, A, c, rfl, (M.pk [1, 2]), ?_, ?_, ?_, rfl⟩ (by first | omega | (simp <;> omega)) ⟨rfl, rfl, rfl, rfl, rfl, trivial⟩)))))))
   ·omega
   ·first
     | exact PO hacc (BH hu) h17
     | exact V2 hacc (BH hu) h17
   ·first | omega | (simp only [List.length_append, List.length_cons, List.length_nil]; omega)
 ·have h12p := (odf h12)
  refine CD (AI (AI ?_))
  have hiE : i = m.fls.length := by omega
  rw [hiE, List.take_length] at hacc
  refine BB (A2 (A4 (A0 (yb rfl (yb rfl (A1 (A2 (AD (AH rfl rfl ?_)))))))))
  rw [← hacc]
  exact ⟨_, _, rfl, M.own 0 rfl, M.fr⟩
theorem o1 (m : Md) (a : MdA) (id : List UInt8) (w : World) (ho : MdOk m) (hM : MdIn w m a) :
 Calls prog 14 #[.agg (Md.cells m a).toArray, str id] w fun e w' => ∃ A c, e = .returned (.slice A ((DD m.fls id).map (fun u => u.id)).length c) ∧ w'.ownsRow w.heap.size 9 1 (.slice A ((DD m.fls id).map (fun u => u.id)).length c) ((DD m.fls id).map (fun u => u.id)).length (AR C4 ((DD m.fls id).map (fun u => u.id))) ∧ Fr0 w w' := by
 refine AK (vs := [_, _]) func14 rfl ntmps14 rfl ?_
 have M := CK w
 refine A4 (A0 (BD M (A9 rfl) rfl rfl 26 rfl rfl (Md.cells m a) rfl fun g2 w1 hg2 M => BD M (A9 rfl) rfl rfl 9 rfl rfl ([str id]) rfl fun g3 w2 hg3 M => yb rfl (A1 (A2 (A4 (A0 (ya rfl (AN (xs := Md.cells m a) rfl rfl (M.rdBlk 1 rfl rfl) underlying26 rfl BL) (ya rfl (CT (us := []) (vs := [pg g3]) rfl rfl rfl) (cl 7 rfl (AF rfl rfl call43) (WK m a 44 [pg g3] (fun u => decide (u.tg = id)) _ ho (hM.fr0 M.fr) call44 (fun x _ W hW => o3 g3 id x W ((M.blk 0 rfl).fr0 hW))) ?_)))))))))
 rintro _ w3 ⟨A7, c7, rfl, how3, hfw3⟩
 refine ⟨_, rfl, ?_⟩
 have M := M.pushOwn hfw3 (Nat.le_refl _) how3
 exact yb rfl (A1 (A2 (AD (AH rfl rfl ⟨_, _, rfl, M.own 0 rfl, M.fr⟩))))
theorem iI (m : Md) (a : MdA) (id : List UInt8) (w : World) (ho : MdOk m) (hM : MdIn w m a) :
 Calls prog 15 #[.agg (Md.cells m a).toArray, str id] w fun e w' => ∃ A c, e = .returned (.slice A ((BK m.fls id).map (fun u => u.id)).length c) ∧ w'.ownsRow w.heap.size 9 1 (.slice A ((BK m.fls id).map (fun u => u.id)).length c) ((BK m.fls id).map (fun u => u.id)).length (AR C4 ((BK m.fls id).map (fun u => u.id))) ∧ Fr0 w w' := by
 refine AK (vs := [_, _]) func15 rfl ntmps15 rfl ?_
 have M := CK w
 refine A4 (A0 (BD M (A9 rfl) rfl rfl 26 rfl rfl (Md.cells m a) rfl fun g2 w1 hg2 M => BD M (A9 rfl) rfl rfl 9 rfl rfl ([str id]) rfl fun g3 w2 hg3 M => yb rfl (A1 (A2 (A4 (A0 (ya rfl (AN (xs := Md.cells m a) rfl rfl (M.rdBlk 1 rfl rfl) underlying26 rfl BL) (ya rfl (CT (us := []) (vs := [pg g3]) rfl rfl rfl) (cl 7 rfl (AF rfl rfl call43) (WK m a 45 [pg g3] (fun u => decide (u.frm = id)) _ ho (hM.fr0 M.fr) call45 (fun x _ W hW => iK g3 id x W ((M.blk 0 rfl).fr0 hW))) ?_)))))))))
 rintro _ w3 ⟨A7, c7, rfl, how3, hfw3⟩
 refine ⟨_, rfl, ?_⟩
 have M := M.pushOwn hfw3 (Nat.le_refl _) how3
 exact yb rfl (A1 (A2 (AD (AH rfl rfl ⟨_, _, rfl, M.own 0 rfl, M.fr⟩))))
theorem GM (m : Md) (a : MdA) (id : List UInt8) (w : World) (ho : MdOk m) (hM : MdIn w m a) :
 Calls prog 55 #[.agg (Md.cells m a).toArray, str id] w fun e w' => ∃ A c, e = .returned (.slice A (AO m.els id).length c) ∧ w'.ownsRow w.heap.size 9 1 (.slice A (AO m.els id).length c) (AO m.els id).length (AR C4 (AO m.els id)) ∧ Fr0 w w' := by
 refine AK (vs := [_, _]) func55 rfl ntmps55 rfl ?_
 have M := CK w
 refine A4 (A0 (BD M (A9 rfl) rfl rfl 26 rfl rfl (Md.cells m a) rfl fun g2 w1 hg2 M => yb rfl (A1 (A2 (A4 (A0 (ya rfl (AN (xs := Md.cells m a) rfl rfl (M.rdBlk 0 rfl rfl) underlying26 rfl BL) (cl 6 rfl (AF rfl rfl call30) (R2 m a _ ho (hM.fr0 M.fr)) ?_))))))))
 rintro _ w2 ⟨ix, gx, FX, rfl, hix, hnx, hfw2⟩
 refine ⟨_, rfl, ?_⟩
 have M := M.push hfw2 (As.ixp m a ix gx FX) hix hnx
 refine yb rfl (cl 8 rfl (AF rfl rfl call96) (TO m a ix gx id _ ho (IxN.at (M.ok 0 _ rfl) (hM.fr0 M.fr))) ?_)
 rintro _ w3 ⟨A8, c8, rfl, how3, hfw3⟩
 refine ⟨_, rfl, ?_⟩
 have M := M.pushOwn hfw3 (Nat.le_refl _) how3
 have hL8 := M.ownLen 0 rfl
 exact yb rfl (A1 (A2 (AD (AH rfl rfl ⟨_, _, rfl, M.own 0 rfl, M.fr⟩))))
theorem KF (m : Md) (a : MdA) (id : List UInt8) (w : World) (ho : MdOk m) (hM : MdIn w m a) :
 Calls prog 56 #[.agg (Md.cells m a).toArray, str id] w fun e w' => ∃ A c, e = .returned (.slice A (CS m id).length c) ∧ w'.ownsRow w.heap.size 9 1 (.slice A (CS m id).length c) (CS m id).length (AR C4 (CS m id)) ∧ Fr0 w w' := by
 have hne := ho.nels
 have hnf := ho.nfls
 refine AK (vs := [_, _]) func56 rfl ntmps56 rfl ?_
 have M := CK w
 refine A4 (A0 (BD M (A9 rfl) rfl rfl 26 rfl rfl (Md.cells m a) rfl fun g2 w1 hg2 M => yb rfl (A1 (A2 (A4 (A0 (yb rfl (A1 (A2 (A4 (A4 (A0 (yb rfl ?_)))))))))))))
 refine yl rfl rfl (M.cell 0 rfl rfl) (ya rfl (CY rfl rfl (sl rfl)) (yb rfl (A1 (A2 (AV ?_)))))
 have M := M.nilOwn 9 1
 refine CM (fun e wr mz => ∃ (i : Nat) (acc : List (List UInt8)) (A : Option Addr) (c : Nat), e = [(1, str id), (5, .slice A acc.length c), (9, .slice a.E m.els.length a.ec), (10, .int .i64 ((m.els.length : Nat) : Int)), (11, .int .i64 ((i : Nat) : Int))] ∧ Mem w AB [As.own w.heap.size 9 1 (.slice A acc.length c) acc.length (AR C4 acc), As.blk g2 26 (Md.cells m a)] wr ∧ (i ≤ m.els.length) ∧ (acc = ((m.els.take i).filter (fun u => ((decide ((u.kind.toNat : Int) = (9 : Int))) && (decide (u.att = id))))).map (fun u => u.id)) ∧ (acc.length ≤ i) ∧ mz = m.els.length - i) ⟨0, [], none, 0, rfl, M, Nat.zero_le _, rfl, Nat.le_refl _, rfl⟩ ⟨rfl, rfl, rfl, rfl, rfl, trivial⟩ ?_
 rintro _ w2 _ ⟨i, acc, A, c, rfl, M, hi, hacc, hal, rfl⟩
 refine A4 (A0 (ya rfl (CH rfl rfl rfl) (A1 (A2 (A4 (AQ (b := (decide (((i : Nat) : Int) < ((m.els.length : Nat) : Int)))) rfl (fun h12 => ?_) (fun h12 => ?_)))))))
 ·have h12p := (odt h12)
  refine AL (A2 (A4 (AV (A4 (A0 ?_)))))
  obtain ⟨u, hu⟩ := DY (l := m.els) (i := i) (by omega)
  obtain ⟨b_u, o_u, hA_u⟩ := CL (k := 11) (by omega) (M.rd hM.els) hu
  refine ya rfl (BW i hA_u rfl rfl rfl (sl rfl) (by omega)) (ya rfl (AN rfl rfl (DK El.len (M.rd hM.els) hA_u hu) underlying62 rfl AU) (BI M (A9 rfl) rfl rfl 62 rfl [str [], str [], .int .u8 0, str [], str [], str [], .int .u8 0, str [], str [], .int .i64 0, .int .i64 0] AY rfl fun g7 w3 hg7 M => B5 (cs' := (El.cells u)) M 0 (A9 rfl) rfl rfl rfl rfl rfl AU rfl (AP rfl) (AW rfl) rfl fun w4 M => A1 (A2 (A4 (A0 (yb rfl (yl rfl rfl (M.cell 0 rfl rfl) (ya rfl (B9 rfl rfl rfl) (yb rfl (AT 5 [(1, str id), (5, .slice A acc.length c), (9, .slice a.E m.els.length a.ec), (10, .int .i64 ((m.els.length : Nat) : Int)), (11, .int .i64 ((i : Nat) : Int)), (7, pg g7), (23, .bool ((decide ((u.kind.toNat : Int) = (9 : Int))) && (decide (u.att = id))))] (fun w' => Mem w AB [As.blk g7 62 (El.cells u), As.own w.heap.size 9 1 (.slice A acc.length c) acc.length (AR C4 acc), As.blk g2 26 (Md.cells m a)] w') ?_ (fun k18 => ?_)))))))))))
  ·intro w5 M
   refine A1 (A2 (AQ (b := ((decide ((u.kind.toNat : Int) = (9 : Int))) && (decide (u.att = id)))) rfl (fun h23 => ?_) (fun h23 => ?_)))
   ·have h23p := (And.intro (odt (C5 h23).1) (odt (C5 h23).2))
    refine A0 (yb rfl (yb rfl (yl rfl rfl (M.cell 0 rfl rfl) (F1 M (A9 rfl) rfl rfl [str u.id] ([str u.id]) rfl rfl rfl rfl underlying45 D5 rfl rfl (JL rfl) rfl fun g27 w6 hg27 M => EQ (len' := (acc ++ [u.id]).length) (xs' := AR C4 (acc ++ [u.id])) M 2 (A9 rfl) rfl rfl rfl rfl rfl rfl (M.rdBlk 0 rfl rfl) underlying45 CU rfl (by decide) (AW rfl) (Nat.le_refl _) (Nat.le_refl _) (by first | omega | (simp <;> omega)) (by unfold maxLen; first | omega | (simp only [List.length_append, List.length_cons, List.length_nil]; omega)) (by simp) (by simp [AR, C4]) fun A28 c28 w7 M => yb rfl (A1 (AC (A2 (A0 (ya rfl (CQ rfl rfl rfl (by omega)) (yb rfl (A1 ?_)))))))))))
    refine BM [(1, str id), (5, .slice A28 (acc ++ [u.id]).length c28), (9, .slice a.E m.els.length a.ec), (10, .int .i64 ((m.els.length : Nat) : Int)), (11, .int .i64 (((i + 1) : Nat) : Int))] (m.els.length - (i + 1)) ⟨i + 1, acc ++ [u.id], A28, c28, rfl, (M.pk [2, 3]), ?_, ?_, ?_, rfl⟩ (by first | omega | (simp <;> omega)) ⟨rfl, rfl, rfl, rfl, rfl, trivial⟩
    ·omega
    ·first
      | exact PO hacc (BH hu) h23
      | exact V2 hacc (BH hu) h23
    ·first | omega | (simp only [List.length_append, List.length_cons, List.length_nil]; omega)
   ·have h23p := ((E9 h23).imp (fun z => (odf z)) (fun z => (odf z)))
    refine AL (AC (A2 (A0 (ya rfl (CQ rfl rfl rfl (by omega)) (yb rfl (A1 (BM [(1, str id), (5, .slice A acc.length c), (9, .slice a.E m.els.length a.ec), (10, .int .i64 ((m.els.length : Nat) : Int)), (11, .int .i64 (((i + 1) : Nat) : Int))] (m.els.length - (i + 1)) ⟨i + 1, acc, A, c, rfl, (M.pk [1, 2]), ?_, ?_, ?_, rfl⟩ (by first | omega | (simp <;> omega)) ⟨rfl, rfl, rfl, rfl, rfl, trivial⟩)))))))
    ·omega
    ·first
      | exact PO hacc (BH hu) h23
      | exact V2 hacc (BH hu) h23
    ·first | omega | (simp only [List.length_append, List.length_cons, List.length_nil]; omega)
  refine AE (d := 18) (b := (decide ((u.kind.toNat : Int) = (9 : Int)))) rfl (fun h18 => ?_) (fun h18 => ?_)
  ·exact yd rfl (yp rfl) (ym rfl rfl (M.cell 0 rfl rfl) (yd rfl (yp rfl) (yd rfl (DG rfl rfl rfl) (yb rfl (k18 _ _ M ⟨rfl, rfl, rfl, rfl, rfl, rfl, (by rw [h18]; rfl), trivial⟩)))))
  ·iterate 4 refine yo rfl ?_
   exact yb rfl (k18 _ _ M ⟨rfl, rfl, rfl, rfl, rfl, rfl, (by rw [h18]; rfl), trivial⟩)
 ·have h12p := (odf h12)
  refine CD (AI (AI ?_))
  have hiE : i = m.els.length := by omega
  rw [hiE, List.take_length] at hacc
  refine BB (A2 (A4 (A0 (yb rfl (yb rfl (A1 (A2 (AD (AH rfl rfl ?_)))))))))
  have hbp : CS m id = acc := hacc.symm
  rw [hbp]
  exact ⟨_, _, rfl, M.own 0 rfl, M.fr⟩
theorem jK (m : Md) (a : MdA) (id : List UInt8) (w : World) (ho : MdOk m) (hM : MdIn w m a) :
 Calls prog 54 #[.agg (Md.cells m a).toArray, str id] w fun e w' => e = .returned (.tuple #[str (OP m id).1, .bool (OP m id).2]) ∧ Fr0 w w' := by
 have hne := ho.nels
 have hnf := ho.nfls
 refine AK (vs := [_, _]) func54 rfl ntmps54 rfl ?_
 have M := CK w
 refine A4 (A0 (BD M (A9 rfl) rfl rfl 26 rfl rfl (Md.cells m a) rfl fun g2 w1 hg2 M => yb rfl (yb rfl (A1 (A2 (A4 (A4 (A0 (ya rfl (AN (xs := Md.cells m a) rfl rfl (M.rdBlk 0 rfl rfl) underlying26 rfl BL) (yb rfl (cp M 15 rfl (AF rfl rfl call111) (aX m a id _ ho (hM.fr0 M.fr)) fun w2 M => yb rfl (yb rfl ?_))))))))))))
 refine yb rfl (BI M (A9 rfl) rfl rfl 62 rfl [str [], str [], .int .u8 0, str [], str [], str [], .int .u8 0, str [], str [], .int .i64 0, .int .i64 0] AY rfl fun g6 w3 hg6 M => B5 (cs' := (El.cells ((AS m.els id).getD zeroEl))) M 0 (A9 rfl) rfl rfl rfl rfl rfl AU rfl (AP rfl) (AW rfl) rfl fun w4 M => yb rfl (A1 (A2 (A4 (A0 (yb rfl (yb rfl (yb rfl (AT 4 [(1, str id), (2, pg g2), (24, .bool ((!(AS m.els id).isSome) || (!decide ((((AS m.els id).getD zeroEl).kind.toNat : Int) = (8 : Int)))))] (fun w' => Mem w AB [As.blk g6 62 (El.cells ((AS m.els id).getD zeroEl)), As.blk g2 26 (Md.cells m a)] w') ?_ (fun k20 => ?_))))))))))
 ·intro w5 M
  refine A1 (A2 (AQ (b := ((!(AS m.els id).isSome) || (!decide ((((AS m.els id).getD zeroEl).kind.toNat : Int) = (8 : Int))))) rfl (fun h24 => ?_) (fun h24 => ?_)))
  ·have h24p := ((EK h24).imp (fun z => (C1 z)) (fun z => (odf (C1 z))))
   exact A4 (A0 (yb rfl (yb rfl (A1 (A2 (AD (AA (BY rfl rfl rfl ⟨by rw [OP, if_pos h24] <;> rfl, M.fr⟩))))))))
  ·have h24p := (And.intro (C3 (CA h24).1) (odt (C3 (CA h24).2)))
   refine AL (A2 (A4 (A4 (A0 (yb rfl (yl rfl rfl (M.cell 1 rfl rfl) (ya rfl (CY rfl rfl (sl rfl)) (yb rfl (A1 (A2 (AV (CM (fun e wr mz => ∃ (i : Nat), e = [(1, str id), (2, pg g2), (26, .slice a.F m.fls.length a.fc), (27, .int .i64 ((m.fls.length : Nat) : Int)), (28, .int .i64 ((i : Nat) : Int))] ∧ Mem w AB [As.blk g6 62 (El.cells ((AS m.els id).getD zeroEl)), As.blk g2 26 (Md.cells m a)] wr ∧ (i ≤ m.fls.length) ∧ (T3 m id m.fls = T3 m id (m.fls.drop i)) ∧ mz = m.fls.length - i) ⟨0, rfl, M, Nat.zero_le _, rfl, rfl⟩ ⟨rfl, rfl, rfl, rfl, rfl, trivial⟩ ?_))))))))))))
   rintro _ w6 _ ⟨i, rfl, M, hi, hE, rfl⟩
   refine A4 (A0 (ya rfl (CH rfl rfl rfl) (A1 (A2 (A4 (AQ (b := (decide (((i : Nat) : Int) < ((m.fls.length : Nat) : Int)))) rfl (fun h29 => ?_) (fun h29 => ?_)))))))
   ·have h29p := (odt h29)
    refine AL (A2 (A4 (AV (A4 (A0 ?_)))))
    obtain ⟨u, hu⟩ := DY (l := m.fls) (i := i) (by omega)
    obtain ⟨b_u, o_u, hA_u⟩ := CL (k := 4) (by omega) (M.rd hM.fls) hu
    refine ya rfl (BW i hA_u rfl rfl rfl (sl rfl) (by omega)) (ya rfl (AN rfl rfl (DK Fl.len (M.rd hM.fls) hA_u hu) underlying65 rfl CB) (BI M (A9 rfl) rfl rfl 65 rfl [str [], str [], str [], str []] EF rfl fun g9 w7 hg9 M => B5 (cs' := (Fl.cells u)) M 0 (A9 rfl) rfl rfl rfl rfl rfl CB rfl (AP rfl) (AW rfl) rfl fun w8 M => A1 (A2 (A4 (A0 (ya rfl (AN (xs := Md.cells m a) rfl rfl (M.rdBlk 2 rfl rfl) underlying26 rfl BL) (yb rfl (yl rfl rfl (M.cell 0 rfl rfl) (cp M 36 rfl (AF rfl rfl call111) (aX m a u.frm _ ho (hM.fr0 M.fr)) fun w9 M => yb rfl (yb rfl ?_))))))))))
    refine yb rfl (BI M (A9 rfl) rfl rfl 62 rfl [str [], str [], .int .u8 0, str [], str [], str [], .int .u8 0, str [], str [], .int .i64 0, .int .i64 0] AY rfl fun g10 w10 hg10 M => B5 (cs' := (El.cells ((AS m.els u.frm).getD zeroEl))) M 0 (A9 rfl) rfl rfl rfl rfl rfl AU rfl (AP rfl) (AW rfl) rfl fun w11 M => yb rfl (A1 (A2 (A4 (A0 (yb rfl (yb rfl (AT 5 [(1, str id), (2, pg g2), (26, .slice a.F m.fls.length a.fc), (27, .int .i64 ((m.fls.length : Nat) : Int)), (28, .int .i64 ((i : Nat) : Int)), (10, pg g10), (45, .bool ((AS m.els u.frm).isSome && (decide (u.tg = id))))] (fun w' => Mem w AB [As.blk g10 62 (El.cells ((AS m.els u.frm).getD zeroEl)), As.blk g9 65 (Fl.cells u), As.blk g6 62 (El.cells ((AS m.els id).getD zeroEl)), As.blk g2 26 (Md.cells m a)] w') ?_ (fun k40 => ?_)))))))))
    ·intro w12 M
     refine yb rfl (AT 4 [(1, str id), (2, pg g2), (26, .slice a.F m.fls.length a.fc), (27, .int .i64 ((m.fls.length : Nat) : Int)), (28, .int .i64 ((i : Nat) : Int)), (10, pg g10), (50, .bool (((AS m.els u.frm).isSome && (decide (u.tg = id))) && (decide ((((AS m.els u.frm).getD zeroEl).kind.toNat : Int) = (7 : Int)))))] (fun w' => Mem w AB [As.blk g10 62 (El.cells ((AS m.els u.frm).getD zeroEl)), As.blk g9 65 (Fl.cells u), As.blk g6 62 (El.cells ((AS m.els id).getD zeroEl)), As.blk g2 26 (Md.cells m a)] w') ?_ (fun k46 => ?_))
     ·intro w13 M
      refine A1 (A2 (AQ (b := (((AS m.els u.frm).isSome && (decide (u.tg = id))) && (decide ((((AS m.els u.frm).getD zeroEl).kind.toNat : Int) = (7 : Int))))) rfl (fun h50 => ?_) (fun h50 => ?_)))
      ·have h50p := (And.intro (And.intro (C5 (C5 h50).1).1 (odt (C5 (C5 h50).1).2)) (odt (C5 h50).2))
       exact A4 (A0 (yb rfl (yl rfl rfl (M.cell 0 rfl rfl) (yb rfl (yb rfl (A1 (A2 (AD (AJ (AA (AA (AJ (AA (BY rfl rfl rfl ⟨by rw [OP, if_neg (BA h24), hE, BG hu, T3, if_pos h50] <;> rfl, M.fr⟩))))))))))))))
      ·have h50p := ((E9 h50).imp (fun z => ((E9 z).imp (fun z => z) (fun z => (odf z)))) (fun z => (odf z)))
       refine AL (AC (A2 (A0 (ya rfl (CQ rfl rfl rfl (by omega)) (yb rfl (A1 (BM [(1, str id), (2, pg g2), (26, .slice a.F m.fls.length a.fc), (27, .int .i64 ((m.fls.length : Nat) : Int)), (28, .int .i64 (((i + 1) : Nat) : Int))] (m.fls.length - (i + 1)) ⟨i + 1, rfl, (M.pk [2, 3]), ?_, ?_, rfl⟩ (by first | omega | (simp <;> omega)) ⟨rfl, rfl, rfl, rfl, rfl, trivial⟩)))))))
       ·omega
       ·rw [hE, BG hu, T3, if_neg (BA h50)]
     refine AE (d := 46) (b := ((AS m.els u.frm).isSome && (decide (u.tg = id)))) rfl (fun h46 => ?_) (fun h46 => ?_)
     ·exact yd rfl (yp rfl) (ym rfl rfl (M.cell 0 rfl rfl) (yd rfl (B9 rfl rfl rfl) (yb rfl (k46 _ _ M ⟨rfl, rfl, rfl, rfl, rfl, rfl, (by rw [h46]; rfl), trivial⟩))))
     ·exact yo rfl (yo rfl (yo rfl (yb rfl (k46 _ _ M ⟨rfl, rfl, rfl, rfl, rfl, rfl, (by rw [h46]; rfl), trivial⟩))))
    refine AE (d := 40) (b := (AS m.els u.frm).isSome) rfl (fun h40 => ?_) (fun h40 => ?_)
    ·exact yd rfl (yp rfl) (ym rfl rfl (M.cell 1 rfl rfl) (yd rfl (yp rfl) (yd rfl (DG rfl rfl rfl) (yb rfl (k40 _ _ M ⟨rfl, rfl, rfl, rfl, rfl, rfl, (by rw [h40]; rfl), trivial⟩)))))
    ·iterate 4 refine yo rfl ?_
     exact yb rfl (k40 _ _ M ⟨rfl, rfl, rfl, rfl, rfl, rfl, (by rw [h40]; rfl), trivial⟩)
   ·have h29p := (odf h29)
    refine CD (AI (AI (BB (A2 (A4 (A0 (yb rfl (yb rfl (A1 (A2 (AD (BY rfl rfl rfl ?_))))))))))))
    obtain rfl : i = m.fls.length := by omega
    exact ⟨by rw [OP, if_neg (BA h24), hE, List.drop_length]; rfl, M.fr⟩
 refine AE (d := 20) (b := (!(AS m.els id).isSome)) rfl (fun h20 => ?_) (fun h20 => ?_)
 ·exact yo rfl (yo rfl (yo rfl (yb rfl (k20 _ _ M ⟨rfl, rfl, (by rw [h20]; rfl), trivial⟩))))
 ·exact yd rfl (yp rfl) (ym rfl rfl (M.cell 0 rfl rfl) (yd rfl (CX rfl rfl rfl) (yb rfl (k20 _ _ M ⟨rfl, rfl, (by rw [h20]; rfl), trivial⟩))))
end Go.Proofs.YtadgfojhjnkliaaGreatDoor
