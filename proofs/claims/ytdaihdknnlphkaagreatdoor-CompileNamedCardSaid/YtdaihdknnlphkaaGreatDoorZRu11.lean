/- Lemmas that the last text rests on. Condition: each says its own. -/
import Derived.Test.YtdaihdknnlphkaaGreatDoorZRu3
import Derived.Test.YtdaihdknnlphkaaGreatDoorZRu9
set_option maxHeartbeats 16000000
set_option maxRecDepth 100000
namespace Go.Proofs.YtdaihdknnlphkaaGreatDoor
open Go.RowKit
open Tryz
theorem VA (l : List El) (id : List UInt8) : ∀ i, ffN (fun (_ : Nat) (b : El) => !(decide (b.id = id))) i l = AO l id := by
 induction l with
 | nil => intro i; rfl
 | cons x r ih =>
  intro i
  rw [ffN, AO]
  by_cases h : x.id = id
  ·rw [if_neg (by simp [h]), if_pos h]
  ·rw [if_pos (by simp [h]), if_neg h]; exact ih (i + 1)
section
variable {α : Type} {p : α → Bool} {f : α → List UInt8} {l l' : List α} {x : α} {acc : List (List UInt8)} (h : acc = (l.filter p).map f) (hl : l' = l ++ [x])
include h hl
theorem fM (hp : p x = true) : acc ++ [f x] = (l'.filter p).map f := by rw [hl, List.filter_append, List.map_append, h]; simp [hp]
theorem pR (hp : p x = false) : acc = (l'.filter p).map f := by rw [hl, List.filter_append, List.map_append, h]; simp [hp]
end
def IP (m : Md) (id : List UInt8) : List Fl → Option (List UInt8)
 | [] => none
 | u :: r => if ((((AO m.els u.frm).isSome) && (decide (u.tg = id))) && (decide ((((AO m.els u.frm).getD zeroEl).kind.toNat : Int) = (7 : Int)))) = true then some ((AO m.els u.frm).getD zeroEl).id else IP m id r
def EV (m : Md) (id : List UInt8) : List UInt8 × Bool :=
 if ((!((AO m.els id).isSome)) || (!decide ((((AO m.els id).getD zeroEl).kind.toNat : Int) = (8 : Int)))) = true then ([], false)
 else match IP m id m.fls with
  | some k => (k, true)
  | none => ([], false)
theorem TE  : prog.built 39 [] = some #[str [], str [], .int .u8 0, str [], str [], str [], .int .u8 0, str [], str [], .int .i64 0, .int .i64 0] := by kernel_rfl
theorem oB (g3 : Nat) (id : List UInt8) (x : El) (w : World) (hb : Blk w g3 9 [str id]) :
 Calls prog 33 #[.agg x.cells.toArray, pg g3] w fun e w' => e = .returned (.bool (decide (x.id = id))) ∧ Fr0 w w' := by
 refine AJ (vs := [_, _]) func33 rfl ntmps33 rfl ?_
 have M := CN w
 refine A9 (A0 (B4 M (AA rfl) rfl rfl 39 rfl rfl (El.cells x) rfl fun g2 w1 hg2 M => yb rfl (A4 (A5 (A9 (A0 (yb rfl (yl rfl rfl (M.cell 0 rfl rfl) (yl rfl rfl (Blk.c (hb.fr0 M.fr) 0 rfl) (ya rfl (DE rfl rfl rfl) (yb rfl (A4 (A5 ?_)))))))))))))
 exact AF (AK rfl rfl ⟨rfl, M.fr⟩)
theorem sQ (g3 : Nat) (id : List UInt8) (x : Fl) (w : World) (hb : Blk w g3 9 [str id]) :
 Calls prog 48 #[.agg x.cells.toArray, pg g3] w fun e w' => e = .returned (.bool (decide (x.tg = id))) ∧ Fr0 w w' := by
 refine AJ (vs := [_, _]) func48 rfl ntmps48 rfl ?_
 have M := CN w
 refine A9 (A0 (B4 M (AA rfl) rfl rfl 41 rfl rfl (Fl.cells x) rfl fun g2 w1 hg2 M => yb rfl (A4 (A5 (A9 (A0 (yb rfl (yl rfl rfl (M.cell 0 rfl rfl) (yl rfl rfl (Blk.c (hb.fr0 M.fr) 0 rfl) (ya rfl (DE rfl rfl rfl) (yb rfl (A4 (A5 ?_)))))))))))))
 exact AF (AK rfl rfl ⟨rfl, M.fr⟩)
theorem mJ (g3 : Nat) (id : List UInt8) (x : Fl) (w : World) (hb : Blk w g3 9 [str id]) :
 Calls prog 49 #[.agg x.cells.toArray, pg g3] w fun e w' => e = .returned (.bool (decide (x.frm = id))) ∧ Fr0 w w' := by
 refine AJ (vs := [_, _]) func49 rfl ntmps49 rfl ?_
 have M := CN w
 refine A9 (A0 (B4 M (AA rfl) rfl rfl 41 rfl rfl (Fl.cells x) rfl fun g2 w1 hg2 M => yb rfl (A4 (A5 (A9 (A0 (yb rfl (yl rfl rfl (M.cell 0 rfl rfl) (yl rfl rfl (Blk.c (hb.fr0 M.fr) 0 rfl) (ya rfl (DE rfl rfl rfl) (yb rfl (A4 (A5 ?_)))))))))))))
 exact AF (AK rfl rfl ⟨rfl, M.fr⟩)
theorem WQ (m : Md) (a : MdA) (id : List UInt8) (w : World) (ho : MdOk m) (hM : MdIn w m a) :
 Calls prog 15 #[.agg (Md.cells m a).toArray, str id] w fun e w' => e = .returned (.tuple #[.agg (((AO m.els id).getD zeroEl).cells).toArray, .bool (AO m.els id).isSome]) ∧ Fr0 w w' := by
 have hne := ho.nels
 have hnf := ho.nfls
 refine AJ (vs := [_, _]) func15 rfl ntmps15 rfl ?_
 have M := CN w
 refine A9 (A0 (B4 M (AA rfl) rfl rfl 26 rfl rfl (Md.cells m a) rfl fun g2 w1 hg2 M => B4 M (AA rfl) rfl rfl 9 rfl rfl ([str id]) rfl fun g3 w2 hg3 M => BI M (AA rfl) rfl rfl 39 rfl [str [], str [], .int .u8 0, str [], str [], str [], .int .u8 0, str [], str [], .int .i64 0, .int .i64 0] B7 rfl fun g4 w3 hg4 M => yb rfl (A4 (A5 (A9 (A0 (yb rfl (yl rfl rfl (M.cell 2 rfl rfl) (ya rfl (CC (us := []) (vs := [pg g3]) rfl rfl rfl) ?_)))))))))
 refine cl 10 rfl (AE rfl rfl call32) (QZ El.cells El.len a.E a.ec m.els (by omega) 33 [pg g3] (fun (_ : Nat) (b : El) => !(!(decide (b.id = id)))) AD (fun _ _ => True) _ (GO call33 (fun x _ w9 hf9 => (oB g3 id x w9 ((M.blk 1 rfl).fr0 hf9)).mono fun _ _ ⟨h1, h2⟩ => ⟨by rw [h1, Bool.not_not], h2⟩)) (fun _ hf9 => (hM.els.fr0 M.fr).fr0 hf9) trivial) ?_
 rintro _ w4 ⟨rfl, _, hfw4⟩
 refine ⟨_, rfl, ?_⟩
 have M := M.step hfw4
 refine yb rfl (A4 (A5 (A9 (A9 (A0 (yb rfl (ya rfl (CB rfl rfl rfl) (A4 (A5 (AT (b := (decide ((ixJ (fun (_ : Nat) (b : El) => !(!(decide (b.id = id)))) 0 m.els) < (0 : Int)))) rfl (fun h12 => ?_) (fun h12 => ?_)))))))))))
 ·have h12p := (odt h12)
  have hff := PD (p := (fun (_ : Nat) (b : El) => !(decide (b.id = id)))) h12p
  rw [VA] at hff
  exact A9 (A0 (ya rfl (BU (parts := []) rfl rfl (TE)) (B8 (cs' := [str [], str [], .int .u8 0, str [], str [], str [], .int .u8 0, str [], str [], .int .i64 0, .int .i64 0]) M 0 (AA rfl) rfl rfl rfl rfl rfl AP rfl (AI rfl) (AY rfl) rfl fun w5 M => yb rfl (A4 (A5 (AF (AB (NR rfl rfl (M.rdBlk 0 rfl rfl) underlying39 rfl AP rfl ⟨by rw [hff]; rfl, M.fr⟩))))))))
 ·have h12p := (odf h12)
  obtain ⟨j, x, hj, hx, hff⟩ := PF (p := (fun (_ : Nat) (b : El) => !(decide (b.id = id)))) h12p
  have hjl : j < m.els.length := (List.getElem?_eq_some_iff.1 hx).1
  rw [hj]
  obtain ⟨b_x, o_x, hA_x⟩ := C7 (k := 11) (by omega) (M.rd hM.els) hx
  rw [VA] at hff
  refine AN (A5 (A9 (A0 (yb rfl (yl rfl rfl (M.cell 2 rfl rfl) (yb rfl (ya rfl (BM j hA_x rfl rfl rfl (sl rfl) (by omega)) (ya rfl (AU rfl rfl (DD El.len (M.rd hM.els) hA_x hx) underlying39 rfl AP) (B8 (cs' := (El.cells x)) M 0 (AA rfl) rfl rfl rfl rfl rfl AP rfl (AI rfl) (AY rfl) rfl fun w6 M => yb rfl (A4 (A5 (AF (NR rfl rfl (M.rdBlk 0 rfl rfl) underlying39 rfl AP rfl ?_)))))))))))))
  exact ⟨by rw [hff]; rfl, M.fr⟩
theorem YV (m : Md) (a : MdA) (f : FuncId) (cs : List Value) (p : Fl → Bool) (w : World) (ho : MdOk m) (hM : MdIn w m a) (hfn : ∀ (ar : Array Value) (w : World), (callFunc f ar).run prog w = .ok (.enter f ar) w)
 (hp : ∀ x ∈ m.fls, ∀ W, Fr0 w W → Calls prog f (.agg x.cells.toArray :: cs).toArray W fun e W' => e = .returned (.bool (p x)) ∧ Fr0 W W') :
 Calls prog 47 #[.agg (Md.cells m a).toArray, .func (.func f) #[] cs.toArray] w fun e w' => ∃ A c, e = .returned (.slice A ((m.fls.filter (fun u => p u)).map (fun u => u.id)).length c) ∧ w'.ownsRow w.heap.size 9 1 (.slice A ((m.fls.filter (fun u => p u)).map (fun u => u.id)).length c) ((m.fls.filter (fun u => p u)).map (fun u => u.id)).length (AS D7 ((m.fls.filter (fun u => p u)).map (fun u => u.id))) ∧ Fr0 w w' := by
 have hne := ho.nels
 have hnf := ho.nfls
 refine AJ (vs := [_, _]) func47 rfl ntmps47 rfl ?_
 have M := CN w
 refine A9 (A0 (B4 M (AA rfl) rfl rfl 26 rfl rfl (Md.cells m a) rfl fun g2 w1 hg2 M => yb rfl (A4 (A5 (A9 (A0 (yb rfl (A4 (A5 (A9 (A9 (A0 (yb rfl ?_)))))))))))))
 refine yl rfl rfl (M.cell 0 rfl rfl) (ya rfl (CS rfl rfl (sl rfl)) (yb rfl (A4 (A5 (AV ?_)))))
 have M := M.nilOwn 9 1
 refine CL (fun e wr mz => ∃ (i : Nat) (acc : List (List UInt8)) (A : Option Addr) (c : Nat), e = [(1, .func (.func f) #[] cs.toArray), (5, .slice A acc.length c), (9, .slice a.F m.fls.length a.fc), (10, .int .i64 ((m.fls.length : Nat) : Int)), (11, .int .i64 ((i : Nat) : Int))] ∧ Mem w AD [As.own w.heap.size 9 1 (.slice A acc.length c) acc.length (AS D7 acc), As.blk g2 26 (Md.cells m a)] wr ∧ (i ≤ m.fls.length) ∧ (acc = ((m.fls.take i).filter (fun u => p u)).map (fun u => u.id)) ∧ (acc.length ≤ i) ∧ mz = m.fls.length - i) ⟨0, [], none, 0, rfl, M, Nat.zero_le _, rfl, Nat.le_refl _, rfl⟩ ⟨rfl, rfl, rfl, rfl, rfl, trivial⟩ ?_
 rintro _ w2 _ ⟨i, acc, A, c, rfl, M, hi, hacc, hal, rfl⟩
 refine A9 (A0 (ya rfl (CB rfl rfl rfl) (A4 (A5 (A9 (AT (b := (decide (((i : Nat) : Int) < ((m.fls.length : Nat) : Int)))) rfl (fun h12 => ?_) (fun h12 => ?_)))))))
 ·have h12p := (odt h12)
  refine AN (A5 (A9 (AV (A9 (A0 ?_)))))
  obtain ⟨u, hu⟩ := DA (l := m.fls) (i := i) (by omega)
  obtain ⟨b_u, o_u, hA_u⟩ := C7 (k := 4) (by omega) (M.rd hM.fls) hu
  refine ya rfl (BM i hA_u rfl rfl rfl (sl rfl) (by omega)) (ya rfl (AU rfl rfl (DD Fl.len (M.rd hM.fls) hA_u hu) underlying41 rfl C8) (BI M (AA rfl) rfl rfl 41 rfl [str [], str [], str [], str []] FW rfl fun g7 w3 hg7 M => B8 (cs' := (Fl.cells u)) M 0 (AA rfl) rfl rfl rfl rfl rfl C8 rfl (AI rfl) (AY rfl) rfl fun w4 M => A4 (A5 (A9 (A0 (yb rfl (ya rfl (AU (xs := Fl.cells u) rfl rfl (M.rdBlk 0 rfl rfl) underlying41 rfl C8) (cp M 17 rfl (BK rfl rfl rfl hfn) (hp u (List.mem_of_getElem? hu) _ M.fr) fun w5 M => A4 (A5 (AT (b := (p u)) rfl (fun h17 => ?_) (fun h17 => ?_)))))))))))
  ·refine A0 (yb rfl (yb rfl (yl rfl rfl (M.cell 0 rfl rfl) (DC M (AA rfl) rfl rfl [str u.id] ([str u.id]) rfl rfl rfl rfl underlying29 CR rfl rfl (IK rfl) rfl fun g21 w6 hg21 M => J4 (len' := (acc ++ [u.id]).length) (xs' := AS D7 (acc ++ [u.id])) M 2 (AA rfl) rfl rfl rfl rfl rfl rfl (M.rdBlk 0 rfl rfl) underlying29 JA rfl (by decide) (AY rfl) (Nat.le_refl _) (Nat.le_refl _) (by first | omega | (simp <;> omega)) (by unfold maxLen; first | omega | (simp only [List.length_append, List.length_cons, List.length_nil]; omega)) (by simp) (by simp [AS, D7]) fun A22 c22 w7 M => yb rfl (A4 (AC (A5 (A0 (ya rfl (CI rfl rfl rfl (by omega)) (yb rfl (A4 ?_)))))))))))
   refine BF [(1, .func (.func f) #[] cs.toArray), (5, .slice A22 (acc ++ [u.id]).length c22), (9, .slice a.F m.fls.length a.fc), (10, .int .i64 ((m.fls.length : Nat) : Int)), (11, .int .i64 (((i + 1) : Nat) : Int))] (m.fls.length - (i + 1)) ⟨i + 1, acc ++ [u.id], A22, c22, rfl, (M.pk [2, 3]), ?_, ?_, ?_, rfl⟩ (by first | omega | (simp <;> omega)) ⟨rfl, rfl, rfl, rfl, rfl, trivial⟩
   ·omega
   ·first
     | exact fM hacc (B3 hu) h17
     | exact pR hacc (B3 hu) h17
   ·first | omega | (simp only [List.length_append, List.length_cons, List.length_nil]; omega)
  ·refine AN (AC (A5 (A0 (ya rfl (CI rfl rfl rfl (by omega)) (yb rfl (A4 (BF [(1, .func (.func f) #[] cs.toArray), (5, .slice A acc.length c), (9, .slice a.F m.fls.length a.fc), (10, .int .i64 ((m.fls.length : Nat) : Int)), (11, .int .i64 (((i + 1) : Nat) : Int))] (m.fls.length - (i + 1)) ⟨i + 1, acc, A, c, rfl, (M.pk [1, 2]), ?_, ?_, ?_, rfl⟩ (by first | omega | (simp <;> omega)) ⟨rfl, rfl, rfl, rfl, rfl, trivial⟩)))))))
   ·omega
   ·first
     | exact fM hacc (B3 hu) h17
     | exact pR hacc (B3 hu) h17
   ·first | omega | (simp only [List.length_append, List.length_cons, List.length_nil]; omega)
 ·have h12p := (odf h12)
  refine C2 (AG (AG ?_))
  have hiE : i = m.fls.length := by omega
  rw [hiE, List.take_length] at hacc
  refine B5 (A5 (A9 (A0 (yb rfl (yb rfl (A4 (A5 (AF (AK rfl rfl ?_)))))))))
  rw [← hacc]
  exact ⟨_, _, rfl, M.own 0 rfl, M.fr⟩
theorem sO (m : Md) (a : MdA) (id : List UInt8) (w : World) (ho : MdOk m) (hM : MdIn w m a) :
 Calls prog 18 #[.agg (Md.cells m a).toArray, str id] w fun e w' => ∃ A c, e = .returned (.slice A ((D3 m.fls id).map (fun u => u.id)).length c) ∧ w'.ownsRow w.heap.size 9 1 (.slice A ((D3 m.fls id).map (fun u => u.id)).length c) ((D3 m.fls id).map (fun u => u.id)).length (AS D7 ((D3 m.fls id).map (fun u => u.id))) ∧ Fr0 w w' := by
 refine AJ (vs := [_, _]) func18 rfl ntmps18 rfl ?_
 have M := CN w
 refine A9 (A0 (B4 M (AA rfl) rfl rfl 26 rfl rfl (Md.cells m a) rfl fun g2 w1 hg2 M => B4 M (AA rfl) rfl rfl 9 rfl rfl ([str id]) rfl fun g3 w2 hg3 M => yb rfl (A4 (A5 (A9 (A0 (ya rfl (AU (xs := Md.cells m a) rfl rfl (M.rdBlk 1 rfl rfl) underlying26 rfl BC) (ya rfl (CC (us := []) (vs := [pg g3]) rfl rfl rfl) (cl 7 rfl (AE rfl rfl call47) (YV m a 48 [pg g3] (fun u => decide (u.tg = id)) _ ho (hM.fr0 M.fr) call48 (fun x _ W hW => sQ g3 id x W ((M.blk 0 rfl).fr0 hW))) ?_)))))))))
 rintro _ w3 ⟨A7, c7, rfl, how3, hfw3⟩
 refine ⟨_, rfl, ?_⟩
 have M := M.pushOwn hfw3 (Nat.le_refl _) how3
 exact yb rfl (A4 (A5 (AF (AK rfl rfl ⟨_, _, rfl, M.own 0 rfl, M.fr⟩))))
theorem S0 (m : Md) (a : MdA) (id : List UInt8) (w : World) (ho : MdOk m) (hM : MdIn w m a) :
 Calls prog 19 #[.agg (Md.cells m a).toArray, str id] w fun e w' => ∃ A c, e = .returned (.slice A ((BJ m.fls id).map (fun u => u.id)).length c) ∧ w'.ownsRow w.heap.size 9 1 (.slice A ((BJ m.fls id).map (fun u => u.id)).length c) ((BJ m.fls id).map (fun u => u.id)).length (AS D7 ((BJ m.fls id).map (fun u => u.id))) ∧ Fr0 w w' := by
 refine AJ (vs := [_, _]) func19 rfl ntmps19 rfl ?_
 have M := CN w
 refine A9 (A0 (B4 M (AA rfl) rfl rfl 26 rfl rfl (Md.cells m a) rfl fun g2 w1 hg2 M => B4 M (AA rfl) rfl rfl 9 rfl rfl ([str id]) rfl fun g3 w2 hg3 M => yb rfl (A4 (A5 (A9 (A0 (ya rfl (AU (xs := Md.cells m a) rfl rfl (M.rdBlk 1 rfl rfl) underlying26 rfl BC) (ya rfl (CC (us := []) (vs := [pg g3]) rfl rfl rfl) (cl 7 rfl (AE rfl rfl call47) (YV m a 49 [pg g3] (fun u => decide (u.frm = id)) _ ho (hM.fr0 M.fr) call49 (fun x _ W hW => mJ g3 id x W ((M.blk 0 rfl).fr0 hW))) ?_)))))))))
 rintro _ w3 ⟨A7, c7, rfl, how3, hfw3⟩
 refine ⟨_, rfl, ?_⟩
 have M := M.pushOwn hfw3 (Nat.le_refl _) how3
 exact yb rfl (A4 (A5 (AF (AK rfl rfl ⟨_, _, rfl, M.own 0 rfl, M.fr⟩))))
theorem TL (m : Md) (a : MdA) (id : List UInt8) (w : World) (ho : MdOk m) (hM : MdIn w m a) :
 Calls prog 96 #[.agg (Md.cells m a).toArray, str id] w fun e w' => ∃ A c, e = .returned (.slice A (DL m.els id).length c) ∧ w'.ownsRow w.heap.size 9 1 (.slice A (DL m.els id).length c) (DL m.els id).length (AS D7 (DL m.els id)) ∧ Fr0 w w' := by
 refine AJ (vs := [_, _]) func96 rfl ntmps96 rfl ?_
 have M := CN w
 refine A9 (A0 (B4 M (AA rfl) rfl rfl 26 rfl rfl (Md.cells m a) rfl fun g2 w1 hg2 M => yb rfl (A4 (A5 (A9 (A0 (ya rfl (AU (xs := Md.cells m a) rfl rfl (M.rdBlk 0 rfl rfl) underlying26 rfl BC) (cl 6 rfl (AE rfl rfl call22) (SN m a _ ho (hM.fr0 M.fr)) ?_))))))))
 rintro _ w2 ⟨ix, gx, FX, rfl, hix, hnx, hfw2⟩
 refine ⟨_, rfl, ?_⟩
 have M := M.push hfw2 (As.ixp m a ix gx FX) hix hnx
 refine yb rfl (cl 8 rfl (AE rfl rfl call86) (VK m a ix gx id _ ho (IxN.at (M.ok 0 _ rfl) (hM.fr0 M.fr))) ?_)
 rintro _ w3 ⟨A8, c8, rfl, how3, hfw3⟩
 refine ⟨_, rfl, ?_⟩
 have M := M.pushOwn hfw3 (Nat.le_refl _) how3
 have hL8 := M.ownLen 0 rfl
 exact yb rfl (A4 (A5 (AF (AK rfl rfl ⟨_, _, rfl, M.own 0 rfl, M.fr⟩))))
theorem SR (m : Md) (a : MdA) (id : List UInt8) (w : World) (ho : MdOk m) (hM : MdIn w m a) :
 Calls prog 34 #[.agg (Md.cells m a).toArray, str id] w fun e w' => e = .returned (.tuple #[str (EV m id).1, .bool (EV m id).2]) ∧ Fr0 w w' := by
 have hne := ho.nels
 have hnf := ho.nfls
 refine AJ (vs := [_, _]) func34 rfl ntmps34 rfl ?_
 have M := CN w
 refine A9 (A0 (B4 M (AA rfl) rfl rfl 26 rfl rfl (Md.cells m a) rfl fun g2 w1 hg2 M => yb rfl (yb rfl (A4 (A5 (A9 (A9 (A0 (ya rfl (AU (xs := Md.cells m a) rfl rfl (M.rdBlk 0 rfl rfl) underlying26 rfl BC) (yb rfl (cp M 15 rfl (AE rfl rfl call15) (WQ m a id _ ho (hM.fr0 M.fr)) fun w2 M => yb rfl (yb rfl ?_))))))))))))
 refine yb rfl (BI M (AA rfl) rfl rfl 39 rfl [str [], str [], .int .u8 0, str [], str [], str [], .int .u8 0, str [], str [], .int .i64 0, .int .i64 0] B7 rfl fun g6 w3 hg6 M => B8 (cs' := (El.cells ((AO m.els id).getD zeroEl))) M 0 (AA rfl) rfl rfl rfl rfl rfl AP rfl (AI rfl) (AY rfl) rfl fun w4 M => yb rfl (A4 (A5 (A9 (A0 (yb rfl (yb rfl (yb rfl (AX 4 [(1, str id), (2, pg g2), (24, .bool ((!(AO m.els id).isSome) || (!decide ((((AO m.els id).getD zeroEl).kind.toNat : Int) = (8 : Int)))))] (fun w' => Mem w AD [As.blk g6 39 (El.cells ((AO m.els id).getD zeroEl)), As.blk g2 26 (Md.cells m a)] w') ?_ (fun k20 => ?_))))))))))
 ·intro w5 M
  refine A4 (A5 (AT (b := ((!(AO m.els id).isSome) || (!decide ((((AO m.els id).getD zeroEl).kind.toNat : Int) = (8 : Int))))) rfl (fun h24 => ?_) (fun h24 => ?_)))
  ·have h24p := ((EL h24).imp (fun z => (C4 z)) (fun z => (odf (C4 z))))
   exact A9 (A0 (yb rfl (yb rfl (A4 (A5 (AF (AB (CA rfl rfl rfl ⟨by rw [EV, if_pos h24] <;> rfl, M.fr⟩))))))))
  ·have h24p := (And.intro (C5 (CE h24).1) (odt (C5 (CE h24).2)))
   refine AN (A5 (A9 (A9 (A0 (yb rfl (yl rfl rfl (M.cell 1 rfl rfl) (ya rfl (CS rfl rfl (sl rfl)) (yb rfl (A4 (A5 (AV (CL (fun e wr mz => ∃ (i : Nat), e = [(1, str id), (2, pg g2), (26, .slice a.F m.fls.length a.fc), (27, .int .i64 ((m.fls.length : Nat) : Int)), (28, .int .i64 ((i : Nat) : Int))] ∧ Mem w AD [As.blk g6 39 (El.cells ((AO m.els id).getD zeroEl)), As.blk g2 26 (Md.cells m a)] wr ∧ (i ≤ m.fls.length) ∧ (IP m id m.fls = IP m id (m.fls.drop i)) ∧ mz = m.fls.length - i) ⟨0, rfl, M, Nat.zero_le _, rfl, rfl⟩ ⟨rfl, rfl, rfl, rfl, rfl, trivial⟩ ?_))))))))))))
   rintro _ w6 _ ⟨i, rfl, M, hi, hE, rfl⟩
   refine A9 (A0 (ya rfl (CB rfl rfl rfl) (A4 (A5 (A9 (AT (b := (decide (((i : Nat) : Int) < ((m.fls.length : Nat) : Int)))) rfl (fun h29 => ?_) (fun h29 => ?_)))))))
   ·have h29p := (odt h29)
    refine AN (A5 (A9 (AV (A9 (A0 ?_)))))
    obtain ⟨u, hu⟩ := DA (l := m.fls) (i := i) (by omega)
    obtain ⟨b_u, o_u, hA_u⟩ := C7 (k := 4) (by omega) (M.rd hM.fls) hu
    refine ya rfl (BM i hA_u rfl rfl rfl (sl rfl) (by omega)) (ya rfl (AU rfl rfl (DD Fl.len (M.rd hM.fls) hA_u hu) underlying41 rfl C8) (BI M (AA rfl) rfl rfl 41 rfl [str [], str [], str [], str []] FW rfl fun g9 w7 hg9 M => B8 (cs' := (Fl.cells u)) M 0 (AA rfl) rfl rfl rfl rfl rfl C8 rfl (AI rfl) (AY rfl) rfl fun w8 M => A4 (A5 (A9 (A0 (ya rfl (AU (xs := Md.cells m a) rfl rfl (M.rdBlk 2 rfl rfl) underlying26 rfl BC) (yb rfl (yl rfl rfl (M.cell 0 rfl rfl) (cp M 36 rfl (AE rfl rfl call15) (WQ m a u.frm _ ho (hM.fr0 M.fr)) fun w9 M => yb rfl (yb rfl ?_))))))))))
    refine yb rfl (BI M (AA rfl) rfl rfl 39 rfl [str [], str [], .int .u8 0, str [], str [], str [], .int .u8 0, str [], str [], .int .i64 0, .int .i64 0] B7 rfl fun g10 w10 hg10 M => B8 (cs' := (El.cells ((AO m.els u.frm).getD zeroEl))) M 0 (AA rfl) rfl rfl rfl rfl rfl AP rfl (AI rfl) (AY rfl) rfl fun w11 M => yb rfl (A4 (A5 (A9 (A0 (yb rfl (yb rfl (AX 5 [(1, str id), (2, pg g2), (26, .slice a.F m.fls.length a.fc), (27, .int .i64 ((m.fls.length : Nat) : Int)), (28, .int .i64 ((i : Nat) : Int)), (10, pg g10), (45, .bool ((AO m.els u.frm).isSome && (decide (u.tg = id))))] (fun w' => Mem w AD [As.blk g10 39 (El.cells ((AO m.els u.frm).getD zeroEl)), As.blk g9 41 (Fl.cells u), As.blk g6 39 (El.cells ((AO m.els id).getD zeroEl)), As.blk g2 26 (Md.cells m a)] w') ?_ (fun k40 => ?_)))))))))
    ·intro w12 M
     refine yb rfl (AX 4 [(1, str id), (2, pg g2), (26, .slice a.F m.fls.length a.fc), (27, .int .i64 ((m.fls.length : Nat) : Int)), (28, .int .i64 ((i : Nat) : Int)), (10, pg g10), (50, .bool (((AO m.els u.frm).isSome && (decide (u.tg = id))) && (decide ((((AO m.els u.frm).getD zeroEl).kind.toNat : Int) = (7 : Int)))))] (fun w' => Mem w AD [As.blk g10 39 (El.cells ((AO m.els u.frm).getD zeroEl)), As.blk g9 41 (Fl.cells u), As.blk g6 39 (El.cells ((AO m.els id).getD zeroEl)), As.blk g2 26 (Md.cells m a)] w') ?_ (fun k46 => ?_))
     ·intro w13 M
      refine A4 (A5 (AT (b := (((AO m.els u.frm).isSome && (decide (u.tg = id))) && (decide ((((AO m.els u.frm).getD zeroEl).kind.toNat : Int) = (7 : Int))))) rfl (fun h50 => ?_) (fun h50 => ?_)))
      ·have h50p := (And.intro (And.intro (C9 (C9 h50).1).1 (odt (C9 (C9 h50).1).2)) (odt (C9 h50).2))
       exact A9 (A0 (yb rfl (yl rfl rfl (M.cell 0 rfl rfl) (yb rfl (yb rfl (A4 (A5 (AF (AL (AB (AB (AL (AB (CA rfl rfl rfl ⟨by rw [EV, if_neg (BE h24), hE, BH hu, IP, if_pos h50] <;> rfl, M.fr⟩))))))))))))))
      ·have h50p := ((EH h50).imp (fun z => ((EH z).imp (fun z => z) (fun z => (odf z)))) (fun z => (odf z)))
       refine AN (AC (A5 (A0 (ya rfl (CI rfl rfl rfl (by omega)) (yb rfl (A4 (BF [(1, str id), (2, pg g2), (26, .slice a.F m.fls.length a.fc), (27, .int .i64 ((m.fls.length : Nat) : Int)), (28, .int .i64 (((i + 1) : Nat) : Int))] (m.fls.length - (i + 1)) ⟨i + 1, rfl, (M.pk [2, 3]), ?_, ?_, rfl⟩ (by first | omega | (simp <;> omega)) ⟨rfl, rfl, rfl, rfl, rfl, trivial⟩)))))))
       ·omega
       ·rw [hE, BH hu, IP, if_neg (BE h50)]
     refine AM (d := 46) (b := ((AO m.els u.frm).isSome && (decide (u.tg = id)))) rfl (fun h46 => ?_) (fun h46 => ?_)
     ·exact yd rfl (yp rfl) (ym rfl rfl (M.cell 0 rfl rfl) (yd rfl (BB rfl rfl rfl) (yb rfl (k46 _ _ M ⟨rfl, rfl, rfl, rfl, rfl, rfl, (by rw [h46]; rfl), trivial⟩))))
     ·exact yo rfl (yo rfl (yo rfl (yb rfl (k46 _ _ M ⟨rfl, rfl, rfl, rfl, rfl, rfl, (by rw [h46]; rfl), trivial⟩))))
    refine AM (d := 40) (b := (AO m.els u.frm).isSome) rfl (fun h40 => ?_) (fun h40 => ?_)
    ·exact yd rfl (yp rfl) (ym rfl rfl (M.cell 1 rfl rfl) (yd rfl (yp rfl) (yd rfl (DE rfl rfl rfl) (yb rfl (k40 _ _ M ⟨rfl, rfl, rfl, rfl, rfl, rfl, (by rw [h40]; rfl), trivial⟩)))))
    ·iterate 4 refine yo rfl ?_
     exact yb rfl (k40 _ _ M ⟨rfl, rfl, rfl, rfl, rfl, rfl, (by rw [h40]; rfl), trivial⟩)
   ·have h29p := (odf h29)
    refine C2 (AG (AG (B5 (A5 (A9 (A0 (yb rfl (yb rfl (A4 (A5 (AF (CA rfl rfl rfl ?_))))))))))))
    obtain rfl : i = m.fls.length := by omega
    exact ⟨by rw [EV, if_neg (BE h24), hE, List.drop_length]; rfl, M.fr⟩
 refine AM (d := 20) (b := (!(AO m.els id).isSome)) rfl (fun h20 => ?_) (fun h20 => ?_)
 ·exact yo rfl (yo rfl (yo rfl (yb rfl (k20 _ _ M ⟨rfl, rfl, (by rw [h20]; rfl), trivial⟩))))
 ·exact yd rfl (yp rfl) (ym rfl rfl (M.cell 0 rfl rfl) (yd rfl (CX rfl rfl rfl) (yb rfl (k20 _ _ M ⟨rfl, rfl, (by rw [h20]; rfl), trivial⟩))))
end Go.Proofs.YtdaihdknnlphkaaGreatDoor
