/- What is asked of a model: Find, Ins, Outs, Around, Borders, Gate (rule): printed by gw/ru11.py. Condition: none. -/
import Derived.Test.YtadgfojhjnkliaaGreatDoorZRu3
import Derived.Test.YtadgfojhjnkliaaGreatDoorZRu9
set_option maxHeartbeats 16000000
set_option maxRecDepth 100000
namespace Go.Proofs.YtadgfojhjnkliaaGreatDoor
open Go.RowKit
theorem TC (l : List El) (id : List UInt8) : ∀ i, ffN (fun (_ : Nat) (b : El) => !(decide (b.id = id))) i l = AT l id := by
 induction l with
 | nil => intro i; rfl
 | cons x r ih =>
  intro i
  rw [ffN, AT]
  by_cases h : x.id = id
  ·rw [if_neg (by simp [h]), if_pos h]
  ·rw [if_pos (by simp [h]), if_neg h]; exact ih (i + 1)
section
variable {α : Type} {p : α → Bool} {f : α → List UInt8} {l l' : List α} {x : α} {acc : List (List UInt8)} (h : acc = (l.filter p).map f) (hl : l' = l ++ [x])
include h hl
theorem PL (hp : p x = true) : acc ++ [f x] = (l'.filter p).map f := by rw [hl, List.filter_append, List.map_append, h]; simp [hp]
theorem V0 (hp : p x = false) : acc = (l'.filter p).map f := by rw [hl, List.filter_append, List.map_append, h]; simp [hp]
end
def CS (m : Md) (id : List UInt8) : List (List UInt8) := (m.els.filter (fun u => ((decide ((u.kind.toNat : Int) = (9 : Int))) && (decide (u.att = id))))).map (fun u => u.id)
def T1 (m : Md) (id : List UInt8) : List Fl → Option (List UInt8)
 | [] => none
 | u :: r => if ((((AT m.els u.frm).isSome) && (decide (u.tg = id))) && (decide ((((AT m.els u.frm).getD zeroEl).kind.toNat : Int) = (7 : Int)))) = true then some ((AT m.els u.frm).getD zeroEl).id else T1 m id r
def OM (m : Md) (id : List UInt8) : List UInt8 × Bool :=
 if ((!((AT m.els id).isSome)) || (!decide ((((AT m.els id).getD zeroEl).kind.toNat : Int) = (8 : Int)))) = true then ([], false)
 else match T1 m id m.fls with
  | some k => (k, true)
  | none => ([], false)
theorem RP  : Tryz.prog.built 62 [] = some #[str [], str [], .int .u8 0, str [], str [], str [], .int .u8 0, str [], str [], .int .i64 0, .int .i64 0] := by kernel_rfl
theorem jY (g3 : Nat) (id : List UInt8) (x : El) (w : World) (hb : Blk w g3 9 [str id]) :
 Calls Tryz.prog 144 #[.agg x.cells.toArray, .pointer (some ⟨g3, 0, none⟩)] w fun e w' => e = .returned (.bool (decide (x.id = id))) ∧ Fr0 w w' := by
 refine AL (vs := [_, _]) Tryz.func144 rfl Tryz.ntmps144 rfl ?_
 have M := CM w
 refine A9 (A0 (BG M (A4 rfl) rfl rfl 62 rfl rfl (El.cells x) rfl fun g2 w1 hg2 M => yb rfl (A1 (A2 (A9 (A0 (yb rfl (yl rfl rfl (M.cell 0 rfl rfl) (yl rfl rfl (Blk.c (hb.fr0 M.fr) 0 rfl) (ya rfl (DG rfl rfl rfl) (yb rfl (A1 (A2 ?_)))))))))))))
 exact AE (AI rfl rfl ⟨rfl, M.fr⟩)
theorem o2 (g3 : Nat) (id : List UInt8) (x : Fl) (w : World) (hb : Blk w g3 9 [str id]) :
 Calls Tryz.prog 44 #[.agg x.cells.toArray, .pointer (some ⟨g3, 0, none⟩)] w fun e w' => e = .returned (.bool (decide (x.tg = id))) ∧ Fr0 w w' := by
 refine AL (vs := [_, _]) Tryz.func44 rfl Tryz.ntmps44 rfl ?_
 have M := CM w
 refine A9 (A0 (BG M (A4 rfl) rfl rfl 65 rfl rfl (Fl.cells x) rfl fun g2 w1 hg2 M => yb rfl (A1 (A2 (A9 (A0 (yb rfl (yl rfl rfl (M.cell 0 rfl rfl) (yl rfl rfl (Blk.c (hb.fr0 M.fr) 0 rfl) (ya rfl (DG rfl rfl rfl) (yb rfl (A1 (A2 ?_)))))))))))))
 exact AE (AI rfl rfl ⟨rfl, M.fr⟩)
theorem iJ (g3 : Nat) (id : List UInt8) (x : Fl) (w : World) (hb : Blk w g3 9 [str id]) :
 Calls Tryz.prog 45 #[.agg x.cells.toArray, .pointer (some ⟨g3, 0, none⟩)] w fun e w' => e = .returned (.bool (decide (x.frm = id))) ∧ Fr0 w w' := by
 refine AL (vs := [_, _]) Tryz.func45 rfl Tryz.ntmps45 rfl ?_
 have M := CM w
 refine A9 (A0 (BG M (A4 rfl) rfl rfl 65 rfl rfl (Fl.cells x) rfl fun g2 w1 hg2 M => yb rfl (A1 (A2 (A9 (A0 (yb rfl (yl rfl rfl (M.cell 0 rfl rfl) (yl rfl rfl (Blk.c (hb.fr0 M.fr) 0 rfl) (ya rfl (DG rfl rfl rfl) (yb rfl (A1 (A2 ?_)))))))))))))
 exact AE (AI rfl rfl ⟨rfl, M.fr⟩)
theorem aV (m : Md) (a : MdA) (id : List UInt8) (w : World) (ho : MdOk m) (hM : MdIn w m a) :
 Calls Tryz.prog 111 #[.agg (Md.cells m a).toArray, str id] w fun e w' => e = .returned (.tuple #[.agg (((AT m.els id).getD zeroEl).cells).toArray, .bool (AT m.els id).isSome]) ∧ Fr0 w w' := by
 have hne := ho.nels
 have hnf := ho.nfls
 refine AL (vs := [_, _]) Tryz.func111 rfl Tryz.ntmps111 rfl ?_
 have M := CM w
 refine A9 (A0 (BG M (A4 rfl) rfl rfl 26 rfl rfl (Md.cells m a) rfl fun g2 w1 hg2 M => BG M (A4 rfl) rfl rfl 9 rfl rfl ([str id]) rfl fun g3 w2 hg3 M => BL M (A4 rfl) rfl rfl 62 rfl [str [], str [], .int .u8 0, str [], str [], str [], .int .u8 0, str [], str [], .int .i64 0, .int .i64 0] B4 rfl fun g4 w3 hg4 M => yb rfl (A1 (A2 (A9 (A0 (yb rfl (yl rfl rfl (M.cell 2 rfl rfl) (ya rfl (CT (us := []) (vs := [.pointer (some ⟨g3, 0, none⟩)]) rfl rfl rfl) ?_)))))))))
 refine AC (some 10) (A4 rfl) rfl rfl (AG rfl rfl Tryz.call21) (UI El.cells El.len a.E a.ec m.els (by omega) 144 [.pointer (some ⟨g3, 0, none⟩)] (fun (_ : Nat) (b : El) => !(!(decide (b.id = id)))) AB (fun _ _ => True) _ (GE Tryz.call144 (fun x _ w9 hf9 => (jY g3 id x w9 ((M.blk 1 rfl).fr0 hf9)).mono fun _ _ ⟨h1, h2⟩ => ⟨by rw [h1, Bool.not_not], h2⟩)) (fun _ hf9 => (hM.els.fr0 M.fr).fr0 hf9) trivial) ?_
 rintro _ w4 ⟨rfl, _, hfw4⟩
 refine ⟨_, rfl, ?_⟩
 have M := M.step hfw4
 refine yb rfl (A1 (A2 (A9 (A9 (A0 (yb rfl (ya rfl (CJ rfl rfl rfl) (A1 (A2 (AR (b := (decide ((ixJ (fun (_ : Nat) (b : El) => !(!(decide (b.id = id)))) 0 m.els) < (0 : Int)))) rfl (fun h12 => ?_) (fun h12 => ?_)))))))))))
 ·have h12p := (of_decide_eq_true h12)
  have hff := LP (p := (fun (_ : Nat) (b : El) => !(decide (b.id = id)))) h12p
  rw [TC] at hff
  exact A9 (A0 (ya rfl (BS (parts := []) rfl rfl (RP)) (B8 (cs' := [str [], str [], .int .u8 0, str [], str [], str [], .int .u8 0, str [], str [], .int .i64 0, .int .i64 0]) M 0 (A4 rfl) rfl rfl rfl rfl rfl AY rfl (AQ rfl) (B3 rfl) rfl fun w5 M => yb rfl (A1 (A2 (AE (AA (G3 rfl rfl (M.rdBlk 0 rfl rfl) Tryz.underlying62 rfl AY rfl ⟨by rw [hff]; rfl, M.fr⟩))))))))
 ·have h12p := (of_decide_eq_false h12)
  obtain ⟨j, x, hj, hx, hff⟩ := LQ (p := (fun (_ : Nat) (b : El) => !(decide (b.id = id)))) h12p
  have hjl : j < m.els.length := (List.getElem?_eq_some_iff.1 hx).1
  rw [hj]
  obtain ⟨b_x, o_x, hA_x⟩ := CN (k := 11) (by omega) (M.rd hM.els) hx
  rw [TC] at hff
  refine AM (A2 (A9 (A0 (yb rfl (yl rfl rfl (M.cell 2 rfl rfl) (yb rfl (ya rfl (BZ j hA_x rfl rfl rfl (sl rfl) (by omega)) (ya rfl (AO rfl rfl (DK El.len (M.rd hM.els) hA_x hx) Tryz.underlying62 rfl AY) (B8 (cs' := (El.cells x)) M 0 (A4 rfl) rfl rfl rfl rfl rfl AY rfl (AQ rfl) (B3 rfl) rfl fun w6 M => yb rfl (A1 (A2 (AE (G3 rfl rfl (M.rdBlk 0 rfl rfl) Tryz.underlying62 rfl AY rfl ?_)))))))))))))
  exact ⟨by rw [hff]; rfl, M.fr⟩
theorem WI (m : Md) (a : MdA) (f : FuncId) (cs : List Value) (p : Fl → Bool) (w : World) (ho : MdOk m) (hM : MdIn w m a) (hfn : ∀ (ar : Array Value) (w : World), (callFunc f ar).run Tryz.prog w = .ok (.enter f ar) w)
 (hp : ∀ x ∈ m.fls, ∀ W, Fr0 w W → Calls Tryz.prog f (.agg x.cells.toArray :: cs).toArray W fun e W' => e = .returned (.bool (p x)) ∧ Fr0 W W') :
 Calls Tryz.prog 43 #[.agg (Md.cells m a).toArray, .func (.func f) #[] cs.toArray] w fun e w' => ∃ A c, e = .returned (.slice A ((m.fls.filter (fun u => p u)).map (fun u => u.id)).length c) ∧ w'.ownsRow w.heap.size 9 1 (.slice A ((m.fls.filter (fun u => p u)).map (fun u => u.id)).length c) ((m.fls.filter (fun u => p u)).map (fun u => u.id)).length (AS C7 ((m.fls.filter (fun u => p u)).map (fun u => u.id))) ∧ Fr0 w w' := by
 have hne := ho.nels
 have hnf := ho.nfls
 refine AL (vs := [_, _]) Tryz.func43 rfl Tryz.ntmps43 rfl ?_
 have M := CM w
 refine A9 (A0 (BG M (A4 rfl) rfl rfl 26 rfl rfl (Md.cells m a) rfl fun g2 w1 hg2 M => yb rfl (A1 (A2 (A9 (A0 (yb rfl (A1 (A2 (A9 (A9 (A0 (yb rfl ?_)))))))))))))
 refine yl rfl rfl (M.cell 0 rfl rfl) (ya rfl (CY rfl rfl (sl rfl)) (yb rfl (A1 (A2 (AZ ?_)))))
 have M := M.nilOwn 9 1
 refine CO (fun e wr mz => ∃ (i : Nat) (acc : List (List UInt8)) (A : Option Addr) (c : Nat), e = [(1, .func (.func f) #[] cs.toArray), (5, .slice A acc.length c), (9, .slice a.F m.fls.length a.fc), (10, .int .i64 ((m.fls.length : Nat) : Int)), (11, .int .i64 ((i : Nat) : Int))] ∧ Mem w AB [As.own w.heap.size 9 1 (.slice A acc.length c) acc.length (AS C7 acc), As.blk g2 26 (Md.cells m a)] wr ∧ (i ≤ m.fls.length) ∧ (acc = ((m.fls.take i).filter (fun u => p u)).map (fun u => u.id)) ∧ (acc.length ≤ i) ∧ mz = m.fls.length - i) ⟨0, [], none, 0, rfl, M, Nat.zero_le _, rfl, Nat.le_refl _, rfl⟩ ⟨rfl, rfl, rfl, rfl, rfl, trivial⟩ ?_
 rintro _ w2 _ ⟨i, acc, A, c, rfl, M, hi, hacc, hal, rfl⟩
 refine A9 (A0 (ya rfl (CJ rfl rfl rfl) (A1 (A2 (A9 (AR (b := (decide (((i : Nat) : Int) < ((m.fls.length : Nat) : Int)))) rfl (fun h12 => ?_) (fun h12 => ?_)))))))
 ·have h12p := (of_decide_eq_true h12)
  refine AM (A2 (A9 (AZ (A9 (A0 ?_)))))
  obtain ⟨u, hu⟩ := DY (l := m.fls) (i := i) (by omega)
  obtain ⟨b_u, o_u, hA_u⟩ := CN (k := 4) (by omega) (M.rd hM.fls) hu
  refine ya rfl (BZ i hA_u rfl rfl rfl (sl rfl) (by omega)) (ya rfl (AO rfl rfl (DK Fl.len (M.rd hM.fls) hA_u hu) Tryz.underlying65 rfl CE) (BL M (A4 rfl) rfl rfl 65 rfl [str [], str [], str [], str []] EF rfl fun g7 w3 hg7 M => B8 (cs' := (Fl.cells u)) M 0 (A4 rfl) rfl rfl rfl rfl rfl CE rfl (AQ rfl) (B3 rfl) rfl fun w4 M => A1 (A2 (A9 (A0 (yb rfl (ya rfl (AO (xs := Fl.cells u) rfl rfl (M.rdBlk 0 rfl rfl) Tryz.underlying65 rfl CE) (AC (some 17) (A4 rfl) rfl rfl (C3 rfl rfl rfl hfn) (hp u (List.mem_of_getElem? hu) _ M.fr) ?_))))))))
  rintro _ w5 ⟨rfl, hfw5⟩
  refine ⟨_, rfl, ?_⟩
  have M := M.step hfw5
  refine A1 (A2 (AR (b := (p u)) rfl (fun h17 => ?_) (fun h17 => ?_)))
  ·refine A0 (yb rfl (yb rfl (yl rfl rfl (M.cell 0 rfl rfl) (F1 M (A4 rfl) rfl rfl [str u.id] ([str u.id]) rfl rfl rfl rfl Tryz.underlying45 D5 rfl rfl (by intro v hv; simp only [List.mem_cons, List.not_mem_nil, or_false] at hv; rcases hv with rfl <;> rfl) rfl fun g21 w6 hg21 M => EQ (len' := (acc ++ [u.id]).length) (xs' := AS C7 (acc ++ [u.id])) M 2 (A4 rfl) rfl rfl rfl rfl rfl rfl (M.rdBlk 0 rfl rfl) Tryz.underlying45 CU rfl (by decide) (B3 rfl) (Nat.le_refl _) (Nat.le_refl _) (by first | omega | (simp only [List.length_append, List.length_cons, List.length_nil]; omega)) (by unfold maxLen; first | omega | (simp only [List.length_append, List.length_cons, List.length_nil]; omega)) (by simp) (by simp [AS, C7]) fun A22 c22 w7 M => yb rfl (A1 (AD (A2 (A0 (ya rfl (CQ rfl rfl rfl (by omega)) (yb rfl (A1 ?_)))))))))))
   refine BP [(1, .func (.func f) #[] cs.toArray), (5, .slice A22 (acc ++ [u.id]).length c22), (9, .slice a.F m.fls.length a.fc), (10, .int .i64 ((m.fls.length : Nat) : Int)), (11, .int .i64 (((i + 1) : Nat) : Int))] (m.fls.length - (i + 1)) ⟨i + 1, acc ++ [u.id], A22, c22, rfl, (M.pick [2, 3] (by decide)), ?_, ?_, ?_, rfl⟩ (by first | omega | (simp only [List.length_append, List.length_cons, List.length_nil]; omega)) ⟨rfl, rfl, rfl, rfl, rfl, trivial⟩
   ·omega
   ·first
     | exact PL hacc (BK hu) h17
     | exact V0 hacc (BK hu) h17
   ·first | omega | (simp only [List.length_append, List.length_cons, List.length_nil]; omega)
  ·refine AM (AD (A2 (A0 (ya rfl (CQ rfl rfl rfl (by omega)) (yb rfl (A1 (BP [(1, .func (.func f) #[] cs.toArray), (5, .slice A acc.length c), (9, .slice a.F m.fls.length a.fc), (10, .int .i64 ((m.fls.length : Nat) : Int)), (11, .int .i64 (((i + 1) : Nat) : Int))] (m.fls.length - (i + 1)) ⟨i + 1, acc, A, c, rfl, (M.pick [1, 2] (by decide)), ?_, ?_, ?_, rfl⟩ (by first | omega | (simp only [List.length_append, List.length_cons, List.length_nil]; omega)) ⟨rfl, rfl, rfl, rfl, rfl, trivial⟩)))))))
   ·omega
   ·first
     | exact PL hacc (BK hu) h17
     | exact V0 hacc (BK hu) h17
   ·first | omega | (simp only [List.length_append, List.length_cons, List.length_nil]; omega)
 ·have h12p := (of_decide_eq_false h12)
  refine CF (AJ (AJ ?_))
  have hiE : i = m.fls.length := by omega
  rw [hiE, List.take_length] at hacc
  refine BE (A2 (A9 (A0 (yb rfl (yb rfl (A1 (A2 (AE (AI rfl rfl ?_)))))))))
  rw [← hacc]
  exact ⟨_, _, rfl, M.own 0 rfl, M.fr⟩
theorem o0 (m : Md) (a : MdA) (id : List UInt8) (w : World) (ho : MdOk m) (hM : MdIn w m a) :
 Calls Tryz.prog 14 #[.agg (Md.cells m a).toArray, str id] w fun e w' => ∃ A c, e = .returned (.slice A ((DD m.fls id).map (fun u => u.id)).length c) ∧ w'.ownsRow w.heap.size 9 1 (.slice A ((DD m.fls id).map (fun u => u.id)).length c) ((DD m.fls id).map (fun u => u.id)).length (AS C7 ((DD m.fls id).map (fun u => u.id))) ∧ Fr0 w w' := by
 refine AL (vs := [_, _]) Tryz.func14 rfl Tryz.ntmps14 rfl ?_
 have M := CM w
 refine A9 (A0 (BG M (A4 rfl) rfl rfl 26 rfl rfl (Md.cells m a) rfl fun g2 w1 hg2 M => BG M (A4 rfl) rfl rfl 9 rfl rfl ([str id]) rfl fun g3 w2 hg3 M => yb rfl (A1 (A2 (A9 (A0 (ya rfl (AO (xs := Md.cells m a) rfl rfl (M.rdBlk 1 rfl rfl) Tryz.underlying26 rfl BO) (ya rfl (CT (us := []) (vs := [.pointer (some ⟨g3, 0, none⟩)]) rfl rfl rfl) (AC (some 7) (A4 rfl) rfl rfl (AG rfl rfl Tryz.call43) (WI m a 44 [.pointer (some ⟨g3, 0, none⟩)] (fun u => decide (u.tg = id)) _ ho (hM.fr0 M.fr) Tryz.call44 (fun x _ W hW => o2 g3 id x W ((M.blk 0 rfl).fr0 hW))) ?_)))))))))
 rintro _ w3 ⟨A7, c7, rfl, how3, hfw3⟩
 refine ⟨_, rfl, ?_⟩
 have M := M.pushOwn hfw3 (Nat.le_refl _) how3
 exact yb rfl (A1 (A2 (AE (AI rfl rfl ⟨_, _, rfl, M.own 0 rfl, M.fr⟩))))
theorem iH (m : Md) (a : MdA) (id : List UInt8) (w : World) (ho : MdOk m) (hM : MdIn w m a) :
 Calls Tryz.prog 15 #[.agg (Md.cells m a).toArray, str id] w fun e w' => ∃ A c, e = .returned (.slice A ((BN m.fls id).map (fun u => u.id)).length c) ∧ w'.ownsRow w.heap.size 9 1 (.slice A ((BN m.fls id).map (fun u => u.id)).length c) ((BN m.fls id).map (fun u => u.id)).length (AS C7 ((BN m.fls id).map (fun u => u.id))) ∧ Fr0 w w' := by
 refine AL (vs := [_, _]) Tryz.func15 rfl Tryz.ntmps15 rfl ?_
 have M := CM w
 refine A9 (A0 (BG M (A4 rfl) rfl rfl 26 rfl rfl (Md.cells m a) rfl fun g2 w1 hg2 M => BG M (A4 rfl) rfl rfl 9 rfl rfl ([str id]) rfl fun g3 w2 hg3 M => yb rfl (A1 (A2 (A9 (A0 (ya rfl (AO (xs := Md.cells m a) rfl rfl (M.rdBlk 1 rfl rfl) Tryz.underlying26 rfl BO) (ya rfl (CT (us := []) (vs := [.pointer (some ⟨g3, 0, none⟩)]) rfl rfl rfl) (AC (some 7) (A4 rfl) rfl rfl (AG rfl rfl Tryz.call43) (WI m a 45 [.pointer (some ⟨g3, 0, none⟩)] (fun u => decide (u.frm = id)) _ ho (hM.fr0 M.fr) Tryz.call45 (fun x _ W hW => iJ g3 id x W ((M.blk 0 rfl).fr0 hW))) ?_)))))))))
 rintro _ w3 ⟨A7, c7, rfl, how3, hfw3⟩
 refine ⟨_, rfl, ?_⟩
 have M := M.pushOwn hfw3 (Nat.le_refl _) how3
 exact yb rfl (A1 (A2 (AE (AI rfl rfl ⟨_, _, rfl, M.own 0 rfl, M.fr⟩))))
theorem GM (m : Md) (a : MdA) (id : List UInt8) (w : World) (ho : MdOk m) (hM : MdIn w m a) :
 Calls Tryz.prog 55 #[.agg (Md.cells m a).toArray, str id] w fun e w' => ∃ A c, e = .returned (.slice A (AP m.els id).length c) ∧ w'.ownsRow w.heap.size 9 1 (.slice A (AP m.els id).length c) (AP m.els id).length (AS C7 (AP m.els id)) ∧ Fr0 w w' := by
 refine AL (vs := [_, _]) Tryz.func55 rfl Tryz.ntmps55 rfl ?_
 have M := CM w
 refine A9 (A0 (BG M (A4 rfl) rfl rfl 26 rfl rfl (Md.cells m a) rfl fun g2 w1 hg2 M => yb rfl (A1 (A2 (A9 (A0 (ya rfl (AO (xs := Md.cells m a) rfl rfl (M.rdBlk 0 rfl rfl) Tryz.underlying26 rfl BO) (AC (some 6) (A4 rfl) rfl rfl (AG rfl rfl Tryz.call30) (R0 m a _ ho (hM.fr0 M.fr)) ?_))))))))
 rintro _ w2 ⟨ix, gx, FX, rfl, hix, hnx, hfw2⟩
 refine ⟨_, rfl, ?_⟩
 have M := M.push hfw2 (As.ixp m a ix gx FX) hix hnx
 refine yb rfl (AC (some 8) (A4 rfl) rfl rfl (AG rfl rfl Tryz.call96) (TM m a ix gx id _ ho (IxN.at (M.ok 0 _ rfl) (hM.fr0 M.fr))) ?_)
 rintro _ w3 ⟨A8, c8, rfl, how3, hfw3⟩
 refine ⟨_, rfl, ?_⟩
 have M := M.pushOwn hfw3 (Nat.le_refl _) how3
 have hL8 := M.ownLen 0 rfl
 exact yb rfl (A1 (A2 (AE (AI rfl rfl ⟨_, _, rfl, M.own 0 rfl, M.fr⟩))))
theorem KE (m : Md) (a : MdA) (id : List UInt8) (w : World) (ho : MdOk m) (hM : MdIn w m a) :
 Calls Tryz.prog 56 #[.agg (Md.cells m a).toArray, str id] w fun e w' => ∃ A c, e = .returned (.slice A (CS m id).length c) ∧ w'.ownsRow w.heap.size 9 1 (.slice A (CS m id).length c) (CS m id).length (AS C7 (CS m id)) ∧ Fr0 w w' := by
 have hne := ho.nels
 have hnf := ho.nfls
 refine AL (vs := [_, _]) Tryz.func56 rfl Tryz.ntmps56 rfl ?_
 have M := CM w
 refine A9 (A0 (BG M (A4 rfl) rfl rfl 26 rfl rfl (Md.cells m a) rfl fun g2 w1 hg2 M => yb rfl (A1 (A2 (A9 (A0 (yb rfl (A1 (A2 (A9 (A9 (A0 (yb rfl ?_)))))))))))))
 refine yl rfl rfl (M.cell 0 rfl rfl) (ya rfl (CY rfl rfl (sl rfl)) (yb rfl (A1 (A2 (AZ ?_)))))
 have M := M.nilOwn 9 1
 refine CO (fun e wr mz => ∃ (i : Nat) (acc : List (List UInt8)) (A : Option Addr) (c : Nat), e = [(1, str id), (5, .slice A acc.length c), (9, .slice a.E m.els.length a.ec), (10, .int .i64 ((m.els.length : Nat) : Int)), (11, .int .i64 ((i : Nat) : Int))] ∧ Mem w AB [As.own w.heap.size 9 1 (.slice A acc.length c) acc.length (AS C7 acc), As.blk g2 26 (Md.cells m a)] wr ∧ (i ≤ m.els.length) ∧ (acc = ((m.els.take i).filter (fun u => ((decide ((u.kind.toNat : Int) = (9 : Int))) && (decide (u.att = id))))).map (fun u => u.id)) ∧ (acc.length ≤ i) ∧ mz = m.els.length - i) ⟨0, [], none, 0, rfl, M, Nat.zero_le _, rfl, Nat.le_refl _, rfl⟩ ⟨rfl, rfl, rfl, rfl, rfl, trivial⟩ ?_
 rintro _ w2 _ ⟨i, acc, A, c, rfl, M, hi, hacc, hal, rfl⟩
 refine A9 (A0 (ya rfl (CJ rfl rfl rfl) (A1 (A2 (A9 (AR (b := (decide (((i : Nat) : Int) < ((m.els.length : Nat) : Int)))) rfl (fun h12 => ?_) (fun h12 => ?_)))))))
 ·have h12p := (of_decide_eq_true h12)
  refine AM (A2 (A9 (AZ (A9 (A0 ?_)))))
  obtain ⟨u, hu⟩ := DY (l := m.els) (i := i) (by omega)
  obtain ⟨b_u, o_u, hA_u⟩ := CN (k := 11) (by omega) (M.rd hM.els) hu
  refine ya rfl (BZ i hA_u rfl rfl rfl (sl rfl) (by omega)) (ya rfl (AO rfl rfl (DK El.len (M.rd hM.els) hA_u hu) Tryz.underlying62 rfl AY) (BL M (A4 rfl) rfl rfl 62 rfl [str [], str [], .int .u8 0, str [], str [], str [], .int .u8 0, str [], str [], .int .i64 0, .int .i64 0] B4 rfl fun g7 w3 hg7 M => B8 (cs' := (El.cells u)) M 0 (A4 rfl) rfl rfl rfl rfl rfl AY rfl (AQ rfl) (B3 rfl) rfl fun w4 M => A1 (A2 (A9 (A0 (yb rfl (yl rfl rfl (M.cell 0 rfl rfl) (ya rfl (BC rfl rfl rfl) (yb rfl (AV 5 [(1, str id), (5, .slice A acc.length c), (9, .slice a.E m.els.length a.ec), (10, .int .i64 ((m.els.length : Nat) : Int)), (11, .int .i64 ((i : Nat) : Int)), (7, .pointer (some ⟨g7, 0, none⟩)), (23, .bool ((decide ((u.kind.toNat : Int) = (9 : Int))) && (decide (u.att = id))))] (fun w' => Mem w AB [As.blk g7 62 (El.cells u), As.own w.heap.size 9 1 (.slice A acc.length c) acc.length (AS C7 acc), As.blk g2 26 (Md.cells m a)] w') ?_ (fun k18 => ?_)))))))))))
  ·intro w5 M
   refine A1 (A2 (AR (b := ((decide ((u.kind.toNat : Int) = (9 : Int))) && (decide (u.att = id)))) rfl (fun h23 => ?_) (fun h23 => ?_)))
   ·have h23p := (And.intro (of_decide_eq_true (C8 h23).1) (of_decide_eq_true (C8 h23).2))
    refine A0 (yb rfl (yb rfl (yl rfl rfl (M.cell 0 rfl rfl) (F1 M (A4 rfl) rfl rfl [str u.id] ([str u.id]) rfl rfl rfl rfl Tryz.underlying45 D5 rfl rfl (by intro v hv; simp only [List.mem_cons, List.not_mem_nil, or_false] at hv; rcases hv with rfl <;> rfl) rfl fun g27 w6 hg27 M => EQ (len' := (acc ++ [u.id]).length) (xs' := AS C7 (acc ++ [u.id])) M 2 (A4 rfl) rfl rfl rfl rfl rfl rfl (M.rdBlk 0 rfl rfl) Tryz.underlying45 CU rfl (by decide) (B3 rfl) (Nat.le_refl _) (Nat.le_refl _) (by first | omega | (simp only [List.length_append, List.length_cons, List.length_nil]; omega)) (by unfold maxLen; first | omega | (simp only [List.length_append, List.length_cons, List.length_nil]; omega)) (by simp) (by simp [AS, C7]) fun A28 c28 w7 M => yb rfl (A1 (AD (A2 (A0 (ya rfl (CQ rfl rfl rfl (by omega)) (yb rfl (A1 ?_)))))))))))
    refine BP [(1, str id), (5, .slice A28 (acc ++ [u.id]).length c28), (9, .slice a.E m.els.length a.ec), (10, .int .i64 ((m.els.length : Nat) : Int)), (11, .int .i64 (((i + 1) : Nat) : Int))] (m.els.length - (i + 1)) ⟨i + 1, acc ++ [u.id], A28, c28, rfl, (M.pick [2, 3] (by decide)), ?_, ?_, ?_, rfl⟩ (by first | omega | (simp only [List.length_append, List.length_cons, List.length_nil]; omega)) ⟨rfl, rfl, rfl, rfl, rfl, trivial⟩
    ·omega
    ·first
      | exact PL hacc (BK hu) h23
      | exact V0 hacc (BK hu) h23
    ·first | omega | (simp only [List.length_append, List.length_cons, List.length_nil]; omega)
   ·have h23p := ((E9 h23).imp (fun z => (of_decide_eq_false z)) (fun z => (of_decide_eq_false z)))
    refine AM (AD (A2 (A0 (ya rfl (CQ rfl rfl rfl (by omega)) (yb rfl (A1 (BP [(1, str id), (5, .slice A acc.length c), (9, .slice a.E m.els.length a.ec), (10, .int .i64 ((m.els.length : Nat) : Int)), (11, .int .i64 (((i + 1) : Nat) : Int))] (m.els.length - (i + 1)) ⟨i + 1, acc, A, c, rfl, (M.pick [1, 2] (by decide)), ?_, ?_, ?_, rfl⟩ (by first | omega | (simp only [List.length_append, List.length_cons, List.length_nil]; omega)) ⟨rfl, rfl, rfl, rfl, rfl, trivial⟩)))))))
    ·omega
    ·first
      | exact PL hacc (BK hu) h23
      | exact V0 hacc (BK hu) h23
    ·first | omega | (simp only [List.length_append, List.length_cons, List.length_nil]; omega)
  refine AF (d := 18) (b := (decide ((u.kind.toNat : Int) = (9 : Int)))) rfl (fun h18 => ?_) (fun h18 => ?_)
  ·exact yd rfl (yp rfl) (ym rfl rfl (M.cell 0 rfl rfl) (yd rfl (yp rfl) (yd rfl (DG rfl rfl rfl) (yb rfl (k18 _ _ M ⟨rfl, rfl, rfl, rfl, rfl, rfl, (by rw [h18]; rfl), trivial⟩)))))
  ·iterate 4 refine yo rfl ?_
   exact yb rfl (k18 _ _ M ⟨rfl, rfl, rfl, rfl, rfl, rfl, (by rw [h18]; rfl), trivial⟩)
 ·have h12p := (of_decide_eq_false h12)
  refine CF (AJ (AJ ?_))
  have hiE : i = m.els.length := by omega
  rw [hiE, List.take_length] at hacc
  refine BE (A2 (A9 (A0 (yb rfl (yb rfl (A1 (A2 (AE (AI rfl rfl ?_)))))))))
  have hbp : CS m id = acc := hacc.symm
  rw [hbp]
  exact ⟨_, _, rfl, M.own 0 rfl, M.fr⟩
theorem jJ (m : Md) (a : MdA) (id : List UInt8) (w : World) (ho : MdOk m) (hM : MdIn w m a) :
 Calls Tryz.prog 54 #[.agg (Md.cells m a).toArray, str id] w fun e w' => e = .returned (.tuple #[str (OM m id).1, .bool (OM m id).2]) ∧ Fr0 w w' := by
 have hne := ho.nels
 have hnf := ho.nfls
 refine AL (vs := [_, _]) Tryz.func54 rfl Tryz.ntmps54 rfl ?_
 have M := CM w
 refine A9 (A0 (BG M (A4 rfl) rfl rfl 26 rfl rfl (Md.cells m a) rfl fun g2 w1 hg2 M => yb rfl (yb rfl (A1 (A2 (A9 (A9 (A0 (ya rfl (AO (xs := Md.cells m a) rfl rfl (M.rdBlk 0 rfl rfl) Tryz.underlying26 rfl BO) (yb rfl (AC (some 15) (A4 rfl) rfl rfl (AG rfl rfl Tryz.call111) (aV m a id _ ho (hM.fr0 M.fr)) ?_)))))))))))
 rintro _ w2 ⟨rfl, hfw2⟩
 refine ⟨_, rfl, ?_⟩
 have M := M.step hfw2
 refine yb rfl (yb rfl (yb rfl (BL M (A4 rfl) rfl rfl 62 rfl [str [], str [], .int .u8 0, str [], str [], str [], .int .u8 0, str [], str [], .int .i64 0, .int .i64 0] B4 rfl fun g6 w3 hg6 M => B8 (cs' := (El.cells ((AT m.els id).getD zeroEl))) M 0 (A4 rfl) rfl rfl rfl rfl rfl AY rfl (AQ rfl) (B3 rfl) rfl fun w4 M => yb rfl (A1 (A2 (A9 (A0 (yb rfl (yb rfl (yb rfl (AV 4 [(1, str id), (2, .pointer (some ⟨g2, 0, none⟩)), (24, .bool ((!(AT m.els id).isSome) || (!decide ((((AT m.els id).getD zeroEl).kind.toNat : Int) = (8 : Int)))))] (fun w' => Mem w AB [As.blk g6 62 (El.cells ((AT m.els id).getD zeroEl)), As.blk g2 26 (Md.cells m a)] w') ?_ (fun k20 => ?_))))))))))))
 ·intro w5 M
  refine A1 (A2 (AR (b := ((!(AT m.els id).isSome) || (!decide ((((AT m.els id).getD zeroEl).kind.toNat : Int) = (8 : Int))))) rfl (fun h24 => ?_) (fun h24 => ?_)))
  ·have h24p := ((EK h24).imp (fun z => (C4 z)) (fun z => (of_decide_eq_false (C4 z))))
   exact A9 (A0 (yb rfl (yb rfl (A1 (A2 (AE (AA (C1 rfl rfl rfl ⟨by rw [OM, if_pos h24] <;> rfl, M.fr⟩))))))))
  ·have h24p := (And.intro (C6 (CD h24).1) (of_decide_eq_true (C6 (CD h24).2)))
   refine AM (A2 (A9 (A9 (A0 (yb rfl (yl rfl rfl (M.cell 1 rfl rfl) (ya rfl (CY rfl rfl (sl rfl)) (yb rfl (A1 (A2 (AZ (CO (fun e wr mz => ∃ (i : Nat), e = [(1, str id), (2, .pointer (some ⟨g2, 0, none⟩)), (26, .slice a.F m.fls.length a.fc), (27, .int .i64 ((m.fls.length : Nat) : Int)), (28, .int .i64 ((i : Nat) : Int))] ∧ Mem w AB [As.blk g6 62 (El.cells ((AT m.els id).getD zeroEl)), As.blk g2 26 (Md.cells m a)] wr ∧ (i ≤ m.fls.length) ∧ (T1 m id m.fls = T1 m id (m.fls.drop i)) ∧ mz = m.fls.length - i) ⟨0, rfl, M, Nat.zero_le _, rfl, rfl⟩ ⟨rfl, rfl, rfl, rfl, rfl, trivial⟩ ?_))))))))))))
   rintro _ w6 _ ⟨i, rfl, M, hi, hE, rfl⟩
   refine A9 (A0 (ya rfl (CJ rfl rfl rfl) (A1 (A2 (A9 (AR (b := (decide (((i : Nat) : Int) < ((m.fls.length : Nat) : Int)))) rfl (fun h29 => ?_) (fun h29 => ?_)))))))
   ·have h29p := (of_decide_eq_true h29)
    refine AM (A2 (A9 (AZ (A9 (A0 ?_)))))
    obtain ⟨u, hu⟩ := DY (l := m.fls) (i := i) (by omega)
    obtain ⟨b_u, o_u, hA_u⟩ := CN (k := 4) (by omega) (M.rd hM.fls) hu
    refine ya rfl (BZ i hA_u rfl rfl rfl (sl rfl) (by omega)) (ya rfl (AO rfl rfl (DK Fl.len (M.rd hM.fls) hA_u hu) Tryz.underlying65 rfl CE) (BL M (A4 rfl) rfl rfl 65 rfl [str [], str [], str [], str []] EF rfl fun g9 w7 hg9 M => B8 (cs' := (Fl.cells u)) M 0 (A4 rfl) rfl rfl rfl rfl rfl CE rfl (AQ rfl) (B3 rfl) rfl fun w8 M => A1 (A2 (A9 (A0 (ya rfl (AO (xs := Md.cells m a) rfl rfl (M.rdBlk 2 rfl rfl) Tryz.underlying26 rfl BO) (yb rfl (yl rfl rfl (M.cell 0 rfl rfl) (AC (some 36) (A4 rfl) rfl rfl (AG rfl rfl Tryz.call111) (aV m a u.frm _ ho (hM.fr0 M.fr)) ?_)))))))))
    rintro _ w9 ⟨rfl, hfw9⟩
    refine ⟨_, rfl, ?_⟩
    have M := M.step hfw9
    refine yb rfl (yb rfl (yb rfl (BL M (A4 rfl) rfl rfl 62 rfl [str [], str [], .int .u8 0, str [], str [], str [], .int .u8 0, str [], str [], .int .i64 0, .int .i64 0] B4 rfl fun g10 w10 hg10 M => B8 (cs' := (El.cells ((AT m.els u.frm).getD zeroEl))) M 0 (A4 rfl) rfl rfl rfl rfl rfl AY rfl (AQ rfl) (B3 rfl) rfl fun w11 M => yb rfl (A1 (A2 (A9 (A0 (yb rfl (yb rfl (AV 5 [(1, str id), (2, .pointer (some ⟨g2, 0, none⟩)), (26, .slice a.F m.fls.length a.fc), (27, .int .i64 ((m.fls.length : Nat) : Int)), (28, .int .i64 ((i : Nat) : Int)), (10, .pointer (some ⟨g10, 0, none⟩)), (45, .bool ((AT m.els u.frm).isSome && (decide (u.tg = id))))] (fun w' => Mem w AB [As.blk g10 62 (El.cells ((AT m.els u.frm).getD zeroEl)), As.blk g9 65 (Fl.cells u), As.blk g6 62 (El.cells ((AT m.els id).getD zeroEl)), As.blk g2 26 (Md.cells m a)] w') ?_ (fun k40 => ?_)))))))))))
    ·intro w12 M
     refine yb rfl (AV 4 [(1, str id), (2, .pointer (some ⟨g2, 0, none⟩)), (26, .slice a.F m.fls.length a.fc), (27, .int .i64 ((m.fls.length : Nat) : Int)), (28, .int .i64 ((i : Nat) : Int)), (10, .pointer (some ⟨g10, 0, none⟩)), (50, .bool (((AT m.els u.frm).isSome && (decide (u.tg = id))) && (decide ((((AT m.els u.frm).getD zeroEl).kind.toNat : Int) = (7 : Int)))))] (fun w' => Mem w AB [As.blk g10 62 (El.cells ((AT m.els u.frm).getD zeroEl)), As.blk g9 65 (Fl.cells u), As.blk g6 62 (El.cells ((AT m.els id).getD zeroEl)), As.blk g2 26 (Md.cells m a)] w') ?_ (fun k46 => ?_))
     ·intro w13 M
      refine A1 (A2 (AR (b := (((AT m.els u.frm).isSome && (decide (u.tg = id))) && (decide ((((AT m.els u.frm).getD zeroEl).kind.toNat : Int) = (7 : Int))))) rfl (fun h50 => ?_) (fun h50 => ?_)))
      ·have h50p := (And.intro (And.intro (C8 (C8 h50).1).1 (of_decide_eq_true (C8 (C8 h50).1).2)) (of_decide_eq_true (C8 h50).2))
       exact A9 (A0 (yb rfl (yl rfl rfl (M.cell 0 rfl rfl) (yb rfl (yb rfl (A1 (A2 (AE (AK (AA (AA (AK (AA (C1 rfl rfl rfl ⟨by rw [OM, if_neg (BD h24), hE, BJ hu, T1, if_pos h50] <;> rfl, M.fr⟩))))))))))))))
      ·have h50p := ((E9 h50).imp (fun z => ((E9 z).imp (fun z => z) (fun z => (of_decide_eq_false z)))) (fun z => (of_decide_eq_false z)))
       refine AM (AD (A2 (A0 (ya rfl (CQ rfl rfl rfl (by omega)) (yb rfl (A1 (BP [(1, str id), (2, .pointer (some ⟨g2, 0, none⟩)), (26, .slice a.F m.fls.length a.fc), (27, .int .i64 ((m.fls.length : Nat) : Int)), (28, .int .i64 (((i + 1) : Nat) : Int))] (m.fls.length - (i + 1)) ⟨i + 1, rfl, (M.pick [2, 3] (by decide)), ?_, ?_, rfl⟩ (by first | omega | (simp only [List.length_append, List.length_cons, List.length_nil]; omega)) ⟨rfl, rfl, rfl, rfl, rfl, trivial⟩)))))))
       ·omega
       ·rw [hE, BJ hu, T1, if_neg (BD h50)]
     refine AF (d := 46) (b := ((AT m.els u.frm).isSome && (decide (u.tg = id)))) rfl (fun h46 => ?_) (fun h46 => ?_)
     ·exact yd rfl (yp rfl) (ym rfl rfl (M.cell 0 rfl rfl) (yd rfl (BC rfl rfl rfl) (yb rfl (k46 _ _ M ⟨rfl, rfl, rfl, rfl, rfl, rfl, (by rw [h46]; rfl), trivial⟩))))
     ·exact yo rfl (yo rfl (yo rfl (yb rfl (k46 _ _ M ⟨rfl, rfl, rfl, rfl, rfl, rfl, (by rw [h46]; rfl), trivial⟩))))
    refine AF (d := 40) (b := (AT m.els u.frm).isSome) rfl (fun h40 => ?_) (fun h40 => ?_)
    ·exact yd rfl (yp rfl) (ym rfl rfl (M.cell 1 rfl rfl) (yd rfl (yp rfl) (yd rfl (DG rfl rfl rfl) (yb rfl (k40 _ _ M ⟨rfl, rfl, rfl, rfl, rfl, rfl, (by rw [h40]; rfl), trivial⟩)))))
    ·iterate 4 refine yo rfl ?_
     exact yb rfl (k40 _ _ M ⟨rfl, rfl, rfl, rfl, rfl, rfl, (by rw [h40]; rfl), trivial⟩)
   ·have h29p := (of_decide_eq_false h29)
    refine CF (AJ (AJ (BE (A2 (A9 (A0 (yb rfl (yb rfl (A1 (A2 (AE (C1 rfl rfl rfl ?_))))))))))))
    obtain rfl : i = m.fls.length := by omega
    exact ⟨by rw [OM, if_neg (BD h24), hE, List.drop_length]; rfl, M.fr⟩
 refine AF (d := 20) (b := (!(AT m.els id).isSome)) rfl (fun h20 => ?_) (fun h20 => ?_)
 ·exact yo rfl (yo rfl (yo rfl (yb rfl (k20 _ _ M ⟨rfl, rfl, (by rw [h20]; rfl), trivial⟩))))
 ·exact yd rfl (yp rfl) (ym rfl rfl (M.cell 0 rfl rfl) (yd rfl (CX rfl rfl rfl) (yb rfl (k20 _ _ M ⟨rfl, rfl, (by rw [h20]; rfl), trivial⟩))))
end Go.Proofs.YtadgfojhjnkliaaGreatDoor
