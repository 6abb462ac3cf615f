/- Lemmas that the last text rests on. Condition: each says its own. -/
import Derived.Test.YtdaihdknnlphkaaGreatDoorZEqv
set_option maxHeartbeats 16000000
set_option maxRecDepth 100000
namespace Go.Proofs.YtdaihdknnlphkaaGreatDoor
open Go.RowKit
def sIn : List UInt8 := [40, 105, 110, 41]
def sOut : List UInt8 := [40, 111, 117, 116, 41]
def FP (m : Md) (y : El) : Bool := if (decide ((y.kind.toNat : Int) = 3) || decide ((y.kind.toNat : Int) = 4) || decide ((y.kind.toNat : Int) = 7)) = true then true else if decide ((y.kind.toNat : Int) = 8) = true then !(EV m y.id).2 else false
def P6 : List (List UInt8) → List UInt8 → Nat
 | [], _ => 0
 | n :: r, k => if k = n then r.length else P6 r k
def idxP (l : List (List UInt8)) (k : List UInt8) : Nat := P6 l.reverse k
theorem j7 (l : List (List UInt8)) (n k : List UInt8) : idxP (l ++ [n]) k = if k = n then l.length else idxP l k := by
 unfold idxP; rw [List.reverse_append]; simp only [List.reverse_cons, List.reverse_nil, List.nil_append, List.cons_append, P6, List.length_reverse]
def RV (m : Md) : List (List UInt8) := (m.fls.filter fun f => !decide ((((AO m.els f.frm).getD zeroEl).kind.toNat : Int) = 7)).map (·.id)
def RW (m : Md) : List (List UInt8) := (m.els.filter (FP m)).map (·.id)
def CU (m : Md) : List (List UInt8) := [sIn, sOut] ++ RV m ++ RW m
structure Tr0 where
 label : List UInt8
 frm : List (List UInt8)
 tg : List (List UInt8)
def E6 (m : Md) (k : List UInt8) : List (List UInt8) := (D3 m.fls k).map (·.id)
def CJ (m : Md) (k : List UInt8) : List (List UInt8) := (BJ m.fls k).map (·.id)
def BZ : List El → List UInt8 → Option El
 | [], _ => none
 | x :: r, k => if (decide ((x.kind.toNat : Int) = 1) && decide (x.inn = k)) = true then some x else BZ r k
def IZ (y : El) (frm tg : List (List UInt8)) : List Tr0 := [⟨y.id ++ [43], frm, [y.id]⟩, ⟨y.id ++ [33], [y.id], tg⟩]
def EN (m : Md) (e y : El) : Bool := if (if decide (y.id = e.att) = true then !decide ((y.kind.toNat : Int) = 10) else false) = true then true else if FP m y = true then (DL m.els y.id).any (fun z => decide (e.att = z)) else false
def CV (m : Md) (y : El) : List Tr0 :=
 if y.kind.toNat = 1 then (if y.inn = [] then [⟨y.id, [sIn], CJ m y.id⟩] else [])
 else if y.kind.toNat = 2 then [⟨y.id, E6 m y.id, if y.inn = [] then [sOut] else CJ m y.inn⟩]
 else if y.kind.toNat = 3 ∨ y.kind.toNat = 4 then IZ y (E6 m y.id) (CJ m y.id)
 else if y.kind.toNat = 5 then (E6 m y.id).flatMap fun a => (CJ m y.id).map fun b => ⟨y.id ++ [32] ++ a ++ [32] ++ b, [a], [b]⟩
 else if y.kind.toNat = 6 then [⟨y.id, E6 m y.id, CJ m y.id⟩]
 else if y.kind.toNat = 7 then [⟨y.id ++ [43], E6 m y.id, [y.id]⟩]
 else if y.kind.toNat = 8 then (if (EV m y.id).2 = true then [⟨y.id ++ [33], [(EV m y.id).1], CJ m y.id⟩] else IZ y (E6 m y.id) (CJ m y.id))
 else if y.kind.toNat = 9 then (m.els.filter (EN m y)).map fun u => ⟨y.id ++ [32] ++ u.id, [u.id], CJ m y.id⟩
 else [⟨y.id, E6 m y.id, CJ m ((BZ m.els y.id).getD zeroEl).id⟩]
def DT (pl : List (List UInt8)) (l : List (List UInt8)) : List Int := (l.map fun s => ((idxP pl s : Nat) : Int)).mergeSort fun x y => decide (x ≤ y)
structure Tr1 where
 label : List UInt8
 ins : List Int
 outs : List Int
def trP (pl : List (List UInt8)) (t : Tr0) : Tr1 := ⟨t.label, DT pl t.frm, DT pl t.tg⟩
def EF (m : Md) : List Tr1 := (m.els.flatMap (CV m)).map (trP (CU m))
def zi (s : List UInt8) : List UInt8 := if s = sIn ∨ s = sOut then s else zz s
theorem U7 {s : List UInt8} (h1 : s ≠ sIn) (h2 : s ≠ sOut) : zi s = zz s := if_neg (by rintro (h | h) <;> contradiction)
theorem u5 : zi sIn = sIn := if_pos (.inl rfl)
theorem kD : zi sOut = sOut := if_pos (.inr rfl)
theorem cN {s : List UInt8} : zz s = [] ∨ ∃ r, zz s = 90 :: r := by
 unfold zz; split
 ·exact .inl rfl
 ·exact .inr ⟨s, rfl⟩
theorem X9 (s : List UInt8) : zz s ≠ sIn := by
 rcases cN (s := s) with h | ⟨r, h⟩ <;> (rw [h]; simp [sIn])
theorem U4 (s : List UInt8) : zz s ≠ sOut := by
 rcases cN (s := s) with h | ⟨r, h⟩ <;> (rw [h]; simp [sOut])
structure Ids (m : Md) : Prop where
 els : ∀ x ∈ m.els, BL x.id = true
 fls : ∀ x ∈ m.fls, BL x.id = true
theorem LU {s : List UInt8} (h : BL s = true) : s ≠ sIn ∧ s ≠ sOut ∧ s ≠ [] :=
 ⟨fun hh => (by rw [hh] at h; exact absurd h (by decide)), fun hh => (by rw [hh] at h; exact absurd h (by decide)), fun hh => (by rw [hh] at h; exact absurd h (by decide))⟩
theorem WK {m : Md} (h : (EA m).2.2 = 0) : Ids m := by
 rw [KD] at h
 have h1 : EU m = none := h _ (by unfold X4; simp)
 unfold EU at h1
 cases hb : N3 m with
 | true => rw [hb, if_pos rfl] at h1; simp at h1
 | false =>
  rw [hb, if_neg (by decide)] at h1
  have hv : ffN (pV m) 0 m.vars = none := by
   cases hv : ffN (pV m) 0 m.vars with
   | none => rfl
   | some b => rw [hv] at h1; simp at h1
  rw [hv] at h1
  have he : ffN (pE m) 0 m.els = none := by
   cases he : ffN (pE m) 0 m.els with
   | none => rfl
   | some b => rw [he] at h1; simp at h1
  rw [he] at h1
  rw [JQ, JY] at h1
  rw [JY] at he
  constructor
  ·intro x hx
   obtain ⟨j, hj⟩ := List.getElem?_of_mem hx
   have := he j x hj
   unfold pE EJ at this
   simp only [Bool.and_eq_true] at this
   exact this.1.1
  ·intro x hx
   obtain ⟨j, hj⟩ := List.getElem?_of_mem hx
   have := h1 j x hj
   unfold pF EJ at this
   simp only [Bool.and_eq_true] at this
   exact this.1
theorem jK {l : List El} {k : List UInt8} {x : El} (h : AO l k = some x) : x ∈ l ∧ x.id = k := by
 induction l with
 | nil => simp [AO] at h
 | cons y r ih =>
  unfold AO at h
  by_cases hk : y.id = k
  ·rw [if_pos hk] at h; obtain rfl : y = x := by simpa using h
   exact ⟨List.mem_cons_self .., hk⟩
  ·rw [if_neg hk] at h; exact ⟨List.mem_cons_of_mem _ (ih h).1, (ih h).2⟩
theorem YS (m : Md) (k : List UInt8) : ∀ l : List Fl, IP m.zz (zz k) (l.map Fl.zz) = (IP m k l).map zz
 | [] => rfl
 | u :: r => by
  show (if (((AO m.zz.els (zz u.frm)).isSome && decide (zz u.tg = zz k)) && decide ((((AO m.zz.els (zz u.frm)).getD zeroEl).kind.toNat : Int) = (7 : Int))) = true then some ((AO m.zz.els (zz u.frm)).getD zeroEl).id else IP m.zz (zz k) (r.map Fl.zz)) = _
  rw [GV, M8, EP, HA, JB, JC, YS m k r, IP]
  split <;> rfl
theorem YR (m : Md) (k : List UInt8) : EV m.zz (zz k) = (zz (EV m k).1, (EV m k).2) := by
 unfold EV
 rw [GV, M8, EP, JB, LF, YS]
 split
 ·rfl
 ·cases IP m k m.fls <;> rfl
theorem UA (m : Md) (y : El) : FP m.zz y.zz = FP m y := by
 unfold FP; rw [JB, JC, YR]
theorem N4 (l : List Fl) : (l.map Fl.zz).map (·.id) = (l.map (·.id)).map zz := by rw [List.map_map, List.map_map]; rfl
theorem aY (l : List El) : (l.map El.zz).map (·.id) = (l.map (·.id)).map zz := by rw [List.map_map, List.map_map]; rfl
theorem eK (m : Md) (k : List UInt8) : E6 m.zz (zz k) = (E6 m k).map zz := by unfold E6; rw [LF, eL, N4]
theorem Y5 (m : Md) (k : List UInt8) : CJ m.zz (zz k) = (CJ m k).map zz := by unfold CJ; rw [LF, JP, N4]
theorem rJ (m : Md) : RV m.zz = (RV m).map zz := by
 unfold RV
 rw [LF, List.filter_map, N4, GV]
 congr 2
 apply List.filter_congr
 intro f _
 show (!decide ((((AO (m.els.map El.zz) (zz f.frm)).getD zeroEl).kind.toNat : Int) = 7)) = _
 rw [EP, JB]
theorem rK (m : Md) : RW m.zz = (RW m).map zz := by
 unfold RW
 rw [GV, List.filter_map, aY]
 congr 2
 apply List.filter_congr
 intro y _
 exact UA m y
theorem W0 (m : Md) : CU m.zz = [sIn, sOut] ++ (RV m ++ RW m).map zz := by
 unfold CU; rw [rJ, rK, List.append_assoc, List.map_append]
theorem eN (s : List UInt8) (h1 : s ≠ sIn) (h2 : s ≠ sOut) : ∀ l : List (List UInt8), P6 (l.map zz ++ [sOut, sIn]) (zz s) = P6 (l ++ [sOut, sIn]) s
 | [] => by
  show (if zz s = sOut then _ else if zz s = sIn then _ else _) = (if s = sOut then _ else if s = sIn then _ else _)
  rw [if_neg (U4 s), if_neg (X9 s), if_neg h2, if_neg h1]; rfl
 | n :: r => by
  show (if zz s = zz n then (r.map zz ++ [sOut, sIn]).length else P6 (r.map zz ++ [sOut, sIn]) (zz s)) = (if s = n then (r ++ [sOut, sIn]).length else P6 (r ++ [sOut, sIn]) s)
  rw [eN s h1 h2 r]
  by_cases h : s = n
  ·rw [if_pos (MT.2 h), if_pos h]; simp
  ·rw [if_neg (fun hh => h (MT.1 hh)), if_neg h]
theorem nO (l : List (List UInt8)) (h : sIn ∉ l) : P6 (l ++ [sOut, sIn]) sIn = 0 := by
 induction l with
 | nil => decide
 | cons n r ih =>
  show (if sIn = n then _ else P6 (r ++ [sOut, sIn]) sIn) = 0
  rw [if_neg (fun hh => h (by rw [hh]; exact List.mem_cons_self ..)), ih (fun hh => h (List.mem_cons_of_mem _ hh))]
theorem eM (l : List (List UInt8)) (h : sOut ∉ l) : P6 (l ++ [sOut, sIn]) sOut = 1 := by
 induction l with
 | nil => decide
 | cons n r ih =>
  show (if sOut = n then _ else P6 (r ++ [sOut, sIn]) sOut) = 1
  rw [if_neg (fun hh => h (by rw [hh]; exact List.mem_cons_self ..)), ih (fun hh => h (List.mem_cons_of_mem _ hh))]
theorem OJ {m : Md} (hi : Ids m) {s : List UInt8} (h : s ∈ RV m ++ RW m) : BL s = true := by
 rcases List.mem_append.1 h with h | h
 ·obtain ⟨x, hx, rfl⟩ := List.mem_map.1 h
  exact hi.fls x (List.mem_filter.1 hx).1
 ·obtain ⟨x, hx, rfl⟩ := List.mem_map.1 h
  exact hi.els x (List.mem_filter.1 hx).1
theorem sU {m : Md} (hi : Ids m) (s : List UInt8) : idxP (CU m.zz) (zi s) = idxP (CU m) s := by
 unfold idxP
 rw [W0, CU, List.append_assoc, List.reverse_append, List.reverse_append]
 show P6 (((RV m ++ RW m).map zz).reverse ++ [sOut, sIn]) (zi s) = P6 ((RV m ++ RW m).reverse ++ [sOut, sIn]) s
 have hn : ∀ n, (n = sIn ∨ n = sOut) → n ∉ (RV m ++ RW m).reverse := fun n hn hh => by
  have := LU (OJ hi (List.mem_reverse.1 hh))
  rcases hn with rfl | rfl
  ·exact this.1 rfl
  ·exact this.2.1 rfl
 have hz : ∀ n, (n = sIn ∨ n = sOut) → n ∉ ((RV m ++ RW m).map zz).reverse := fun n hn hh => by
  obtain ⟨x, _, hx⟩ := List.mem_map.1 (List.mem_reverse.1 hh)
  rcases hn with rfl | rfl
  ·exact X9 x hx
  ·exact U4 x hx
 by_cases h1 : s = sIn
 ·subst h1; rw [u5, nO _ (hz _ (.inl rfl)), nO _ (hn _ (.inl rfl))]
 ·by_cases h2 : s = sOut
  ·subst h2; rw [kD, eM _ (hz _ (.inr rfl)), eM _ (hn _ (.inr rfl))]
  ·rw [U7 h1 h2, ← List.map_reverse, eN s h1 h2]
theorem Y7 {m : Md} (hi : Ids m) (l : List (List UInt8)) : DT (CU m.zz) (l.map zi) = DT (CU m) l := by
 unfold DT
 rw [List.map_map]
 congr 2
 funext s
 show ((idxP (CU m.zz) (zi s) : Nat) : Int) = _
 rw [sU hi]
def Plain (l : List (List UInt8)) : Prop := ∀ s ∈ l, s ≠ sIn ∧ s ≠ sOut
theorem Plain.map {l : List (List UInt8)} (h : Plain l) : l.map zi = l.map zz := List.map_congr_left fun s hs => U7 (h s hs).1 (h s hs).2
theorem UJ {m : Md} (hi : Ids m) (k : List UInt8) : Plain (E6 m k) := fun s hs => by
 obtain ⟨x, hx, rfl⟩ := List.mem_map.1 hs
 have := LU (hi.fls x (List.mem_filter.1 hx).1)
 exact ⟨this.1, this.2.1⟩
theorem RX {m : Md} (hi : Ids m) (k : List UInt8) : Plain (CJ m k) := fun s hs => by
 obtain ⟨x, hx, rfl⟩ := List.mem_map.1 hs
 have := LU (hi.fls x (List.mem_filter.1 hx).1)
 exact ⟨this.1, this.2.1⟩
theorem kE {m : Md} (hi : Ids m) {y : El} (hy : y ∈ m.els) : zi y.id = zz y.id := by
 have := LU (hi.els y hy)
 exact U7 this.1 this.2.1
theorem SK {m : Md} (hi : Ids m) (k : List UInt8) : E6 m.zz (zz k) = (E6 m k).map zi := by rw [eK, (UJ hi k).map]
theorem KF {m : Md} (hi : Ids m) (k : List UInt8) : CJ m.zz (zz k) = (CJ m k).map zi := by rw [Y5, (RX hi k).map]
theorem UE (k : List UInt8) : ∀ l : List El, BZ (l.map El.zz) (zz k) = (BZ l k).map El.zz
 | [] => rfl
 | x :: r => by
  show (if (decide ((x.kind.toNat : Int) = 1) && decide (zz x.inn = zz k)) = true then some x.zz else BZ (r.map El.zz) (zz k)) = _
  rw [HA, UE k r, BZ]
  split <;> rfl
theorem gH (k : List UInt8) (l : List El) : ((BZ (l.map El.zz) (zz k)).getD zeroEl).id = zz ((BZ l k).getD zeroEl).id := by
 rw [UE]; cases BZ l k <;> rfl
theorem UX {m : Md} {k s : List UInt8} : ∀ {l : List Fl}, IP m k l = some s → s = [] ∨ ∃ x ∈ m.els, x.id = s
 | [], h => by simp [IP] at h
 | u :: r, h => by
  unfold IP at h
  split at h
  ·simp only [Option.some.injEq] at h
   cases hf : AO m.els u.frm with
   | none => rw [hf] at h; exact .inl h.symm
   | some x => rw [hf] at h; exact .inr ⟨x, (jK hf).1, h⟩
  ·exact UX h
theorem bK {m : Md} (hi : Ids m) (k : List UInt8) : (EV m k).1 ≠ sIn ∧ (EV m k).1 ≠ sOut := by
 unfold EV
 split
 ·exact ⟨by decide, by decide⟩
 ·cases hg : IP m k m.fls with
  | none => exact ⟨by decide, by decide⟩
  | some s =>
   rcases UX hg with rfl | ⟨x, hx, rfl⟩
   ·exact ⟨by decide, by decide⟩
   ·have := LU (hi.els x hx); exact ⟨this.1, this.2.1⟩
theorem pA (m : Md) (e y : El) : EN m.zz e.zz y.zz = EN m e y := by
 unfold EN
 rw [UA, JC, wU, JB, GV, TM, HA, fK _ (q := fun z => decide (e.att = z)) (fun z => HA _ _)]
theorem ST {α β : Type} {f g : α → List β} : ∀ {l : List α}, (∀ a ∈ l, f a = g a) → l.flatMap f = l.flatMap g
 | [], _ => rfl
 | a :: r, h => by rw [List.flatMap_cons, List.flatMap_cons, h a (List.mem_cons_self ..), ST fun b hb => h b (List.mem_cons_of_mem _ hb)]
def Tr0.ft (t : Tr0) : List (List UInt8) × List (List UInt8) := (t.frm, t.tg)
def Tr0.fz (t : Tr0) : List (List UInt8) × List (List UInt8) := (t.frm.map zi, t.tg.map zi)
theorem cZ {m : Md} (hi : Ids m) {y : El} (hy : y ∈ m.els) : (IZ y.zz (E6 m.zz y.zz.id) (CJ m.zz y.zz.id)).map Tr0.ft = (IZ y (E6 m y.id) (CJ m y.id)).map Tr0.fz := by
 unfold IZ
 rw [JC, SK hi, KF hi]
 simp only [List.map_cons, List.map_nil, Tr0.ft, Tr0.fz, kE hi hy]
theorem fY {m : Md} (hi : Ids m) {y : El} (hy : y ∈ m.els) : (CV m.zz y.zz).map Tr0.ft = (CV m y).map Tr0.fz := by
 have hid := kE hi hy
 unfold CV
 rw [JB]
 by_cases h1 : y.kind.toNat = 1
 ·rw [if_pos h1, if_pos h1, PI]
  by_cases h0 : y.inn = []
  ·rw [if_pos (KR.2 h0), if_pos h0, JC, KF hi]
   simp only [List.map_cons, List.map_nil, Tr0.ft, Tr0.fz, u5]
  ·rw [if_neg (fun hh => h0 (KR.1 hh)), if_neg h0]; rfl
 rw [if_neg h1, if_neg h1]
 by_cases h2 : y.kind.toNat = 2
 ·rw [if_pos h2, if_pos h2, PI, JC, SK hi]
  by_cases h0 : y.inn = []
  ·rw [if_pos (KR.2 h0), if_pos h0]
   simp only [List.map_cons, List.map_nil, Tr0.ft, Tr0.fz, kD]
  ·rw [if_neg (fun hh => h0 (KR.1 hh)), if_neg h0, KF hi]; rfl
 rw [if_neg h2, if_neg h2]
 by_cases h3 : y.kind.toNat = 3 ∨ y.kind.toNat = 4
 ·rw [if_pos h3, if_pos h3]; exact cZ hi hy
 rw [if_neg h3, if_neg h3]
 by_cases h5 : y.kind.toNat = 5
 ·rw [if_pos h5, if_pos h5, JC, eK, Y5, List.map_flatMap, List.map_flatMap, List.flatMap_map]
  have hI := UJ hi y.id
  have hO := RX hi y.id
  apply ST
  intro a ha
  rw [List.map_map, List.map_map, List.map_map]
  apply List.map_congr_left
  intro b hb
  show ([zz a], [zz b]) = ([zi a], [zi b])
  rw [U7 (hI a ha).1 (hI a ha).2, U7 (hO b hb).1 (hO b hb).2]
 rw [if_neg h5, if_neg h5]
 by_cases h6 : y.kind.toNat = 6
 ·rw [if_pos h6, if_pos h6, JC, SK hi, KF hi]; rfl
 rw [if_neg h6, if_neg h6]
 by_cases h7 : y.kind.toNat = 7
 ·rw [if_pos h7, if_pos h7, JC, SK hi]
  simp only [List.map_cons, List.map_nil, Tr0.ft, Tr0.fz, hid]
 rw [if_neg h7, if_neg h7]
 by_cases h8 : y.kind.toNat = 8
 ·rw [if_pos h8, if_pos h8, JC, YR]
  by_cases hg : (EV m y.id).2 = true
  ·rw [if_pos hg, if_pos hg, KF hi]
   have := bK hi y.id
   simp only [List.map_cons, List.map_nil, Tr0.ft, Tr0.fz, U7 this.1 this.2]
  ·rw [if_neg hg, if_neg hg]; exact cZ hi hy
 rw [if_neg h8, if_neg h8]
 by_cases h9 : y.kind.toNat = 9
 ·rw [if_pos h9, if_pos h9, JC, KF hi, GV, List.filter_map, List.map_map, List.map_map, List.map_map]
  rw [List.filter_congr (fun u _ => show ((EN m.zz y.zz) ∘ El.zz) u = EN m y u from pA m y u)]
  apply List.map_congr_left
  intro u hu
  show ([zz u.id], (CJ m y.id).map zi) = ([zi u.id], (CJ m y.id).map zi)
  rw [kE hi (List.mem_filter.1 hu).1]
 rw [if_neg h9, if_neg h9, JC, SK hi, GV, gH, KF hi]; rfl
def Tr1.io (t : Tr1) : List Int × List Int := (t.ins, t.outs)
theorem kW {m : Md} (hi : Ids m) : (EF m.zz).map Tr1.io = (EF m).map Tr1.io := by
 have h1 : ∀ t : List (List UInt8) × List (List UInt8), ∀ pl, True → (DT pl t.1, DT pl t.2) = (DT pl t.1, DT pl t.2) := fun _ _ _ => rfl
 have key : (m.zz.els.flatMap (CV m.zz)).map Tr0.ft = (m.els.flatMap (CV m)).map Tr0.fz := by
  rw [GV, List.map_flatMap, List.map_flatMap, List.flatMap_map]
  exact ST fun y hy => fY hi hy
 have h2 : (EF m.zz).map Tr1.io = ((m.zz.els.flatMap (CV m.zz)).map Tr0.ft).map fun t => (DT (CU m.zz) t.1, DT (CU m.zz) t.2) := by
  unfold EF; rw [List.map_map, List.map_map]; rfl
 rw [h2, key]
 unfold EF
 rw [List.map_map, List.map_map]
 apply List.map_congr_left
 intro t _
 show (DT (CU m.zz) (t.frm.map zi), DT (CU m.zz) (t.tg.map zi)) = (DT (CU m) t.frm, DT (CU m) t.tg)
 rw [Y7 hi, Y7 hi]
end Go.Proofs.YtdaihdknnlphkaaGreatDoor
