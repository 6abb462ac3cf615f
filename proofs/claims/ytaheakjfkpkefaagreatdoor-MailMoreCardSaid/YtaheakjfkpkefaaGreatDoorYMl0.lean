/- Lemmas that the last text rests on. Condition: each says its own. -/
import Derived.Test.YtaheakjfkpkefaaGreatDoorYMwIn
set_option maxHeartbeats 16000000
set_option maxRecDepth 100000
namespace Go.Proofs.YtaheakjfkpkefaaGreatDoor
open Go.ChangeShapes Go.WideShapes Go.ChangeAt Go.RowKit Go.Deep Go.Joins
open Tryz
section
theorem SC : prog.cellsOf 95 = 11 := by kernel_rfl
theorem SB : prog.cellsOf 109 = 4 := by kernel_rfl
theorem S8 : prog.cellsOf 56 = 9 := by kernel_rfl
theorem YY : prog.cellsOf 33 = 5 := by kernel_rfl
theorem YX : prog.cellsOf 31 = 1 := by kernel_rfl
theorem lL : prog.cellsOf 5 = 1 := by kernel_rfl
theorem GJ : prog.cellsOf 3 = 1 := by kernel_rfl
theorem eP : prog.cellsOf 51 = 1 := by kernel_rfl
theorem eQ : prog.cellsOf 59 = 1 := by kernel_rfl
theorem eN : prog.cellsOf 60 = 1 := by kernel_rfl
section
variable {H : Type} {enc : TypeId × Value → H} {w : World}
theorem nE {r : List Value} {d : DataW H} (h : SL enc prog w 95 r d) (hz : Sized prog 95 d) : ∃ b : El, r = b.cells ∧ (b.id.length ≤ reachBytes ∧ b.nm.length ≤ reachBytes ∧ b.inn.length ≤ reachBytes ∧ b.dflt.length ≤ reachBytes ∧ b.att.length ≤ reachBytes ∧ b.ref.length ≤ reachBytes ∧ b.key.length ≤ reachBytes) := by
 obtain ⟨fuel, p, hf⟩ := h
 obtain ⟨xs, n, _, hx, hl, hlen, hfl⟩ := DataW.trod_struct underlying95 hf
 rw [SC] at hl
 match r, hl with
 | [c0, c1, c2, c3, c4, c5, c6, c7, c8, c9, c10], _ =>
 match xs, hlen with
 | [y0, y1, y2, y3, y4, y5, y6, y7, y8, y9, y10], _ =>
  simp only [Prod.mk.injEq] at hx
  obtain ⟨rfl, _⟩ := hx
  have k0 : DataW.trod enc prog w 0 (fun _ => true) true n 9 (List.take (prog.cellsOf 9) [c0, c1, c2, c3, c4, c5, c6, c7, c8, c9, c10]) = some y0 := hfl 0 _ rfl
  rw [CV] at k0
  obtain ⟨s0, e0, d0, _⟩ := DataW.trod_string underlying9 k0
  obtain rfl : c0 = _ := by simpa using e0
  have z0 := Sized.field (j := 0) underlying95 hz rfl rfl
  rw [d0] at z0
  have k1 : DataW.trod enc prog w 0 (fun _ => true) true n 9 (List.take (prog.cellsOf 9) [c1, c2, c3, c4, c5, c6, c7, c8, c9, c10]) = some y1 := hfl 1 _ rfl
  rw [CV] at k1
  obtain ⟨s1, e1, d1, _⟩ := DataW.trod_string underlying9 k1
  obtain rfl : c1 = _ := by simpa using e1
  have z1 := Sized.field (j := 1) underlying95 hz rfl rfl
  rw [d1] at z1
  have k2 : DataW.trod enc prog w 0 (fun _ => true) true n 5 (List.take (prog.cellsOf 5) [c2, c3, c4, c5, c6, c7, c8, c9, c10]) = some y2 := hfl 2 _ rfl
  rw [OF] at k2
  obtain ⟨a2, e2, _, w2⟩ := DataW.trod_int underlying5 k2
  obtain rfl : c2 = _ := by simpa using e2
  have k3 : DataW.trod enc prog w 0 (fun _ => true) true n 9 (List.take (prog.cellsOf 9) [c3, c4, c5, c6, c7, c8, c9, c10]) = some y3 := hfl 3 _ rfl
  rw [CV] at k3
  obtain ⟨s3, e3, d3, _⟩ := DataW.trod_string underlying9 k3
  obtain rfl : c3 = _ := by simpa using e3
  have z3 := Sized.field (j := 3) underlying95 hz rfl rfl
  rw [d3] at z3
  have k4 : DataW.trod enc prog w 0 (fun _ => true) true n 9 (List.take (prog.cellsOf 9) [c4, c5, c6, c7, c8, c9, c10]) = some y4 := hfl 4 _ rfl
  rw [CV] at k4
  obtain ⟨s4, e4, d4, _⟩ := DataW.trod_string underlying9 k4
  obtain rfl : c4 = _ := by simpa using e4
  have z4 := Sized.field (j := 4) underlying95 hz rfl rfl
  rw [d4] at z4
  have k5 : DataW.trod enc prog w 0 (fun _ => true) true n 9 (List.take (prog.cellsOf 9) [c5, c6, c7, c8, c9, c10]) = some y5 := hfl 5 _ rfl
  rw [CV] at k5
  obtain ⟨s5, e5, d5, _⟩ := DataW.trod_string underlying9 k5
  obtain rfl : c5 = _ := by simpa using e5
  have z5 := Sized.field (j := 5) underlying95 hz rfl rfl
  rw [d5] at z5
  have k6 : DataW.trod enc prog w 0 (fun _ => true) true n 5 (List.take (prog.cellsOf 5) [c6, c7, c8, c9, c10]) = some y6 := hfl 6 _ rfl
  rw [OF] at k6
  obtain ⟨a6, e6, _, w6⟩ := DataW.trod_int underlying5 k6
  obtain rfl : c6 = _ := by simpa using e6
  have k7 : DataW.trod enc prog w 0 (fun _ => true) true n 9 (List.take (prog.cellsOf 9) [c7, c8, c9, c10]) = some y7 := hfl 7 _ rfl
  rw [CV] at k7
  obtain ⟨s7, e7, d7, _⟩ := DataW.trod_string underlying9 k7
  obtain rfl : c7 = _ := by simpa using e7
  have z7 := Sized.field (j := 7) underlying95 hz rfl rfl
  rw [d7] at z7
  have k8 : DataW.trod enc prog w 0 (fun _ => true) true n 9 (List.take (prog.cellsOf 9) [c8, c9, c10]) = some y8 := hfl 8 _ rfl
  rw [CV] at k8
  obtain ⟨s8, e8, d8, _⟩ := DataW.trod_string underlying9 k8
  obtain rfl : c8 = _ := by simpa using e8
  have z8 := Sized.field (j := 8) underlying95 hz rfl rfl
  rw [d8] at z8
  have k9 : DataW.trod enc prog w 0 (fun _ => true) true n 3 (List.take (prog.cellsOf 3) [c9, c10]) = some y9 := hfl 9 _ rfl
  rw [GJ] at k9
  obtain ⟨a9, e9, _⟩ := DataW.trod_int underlying3 k9
  obtain rfl : c9 = _ := by simpa using e9
  have k10 : DataW.trod enc prog w 0 (fun _ => true) true n 3 (List.take (prog.cellsOf 3) [c10]) = some y10 := hfl 10 _ rfl
  rw [GJ] at k10
  obtain ⟨a10, e10, _⟩ := DataW.trod_int underlying3 k10
  obtain rfl : c10 = _ := by simpa using e10
  exact ⟨⟨s0.data.toList, s1.data.toList, UInt8.ofNat a2.toNat, s3.data.toList, s4.data.toList, s5.data.toList, UInt8.ofNat a6.toNat, s7.data.toList, s8.data.toList, a9, a10⟩, by rw [VQ w2, VQ w6]; rfl, z0.text, z1.text, z3.text, z4.text, z5.text, z7.text, z8.text⟩
theorem rN {A : Option Addr} {len cap fuel : Nat} {x : DataW H × List MemPlace} (h : DataW.trod enc prog w 0 (fun _ => true) true fuel 59 [.slice A len cap] = some x) (hz : Sized prog 59 x.1) :
 ∃ l : List El, l.length = len ∧ (∀ b ∈ l, b.id.length ≤ reachBytes ∧ b.nm.length ≤ reachBytes ∧ b.inn.length ≤ reachBytes ∧ b.dflt.length ≤ reachBytes ∧ b.att.length ≤ reachBytes ∧ b.ref.length ≤ reachBytes ∧ b.key.length ≤ reachBytes) ∧ Rd w A (l.length * 11) (AB El.cells l) := by
 obtain ⟨rows, D, hl, hD, _, hr, _, _, hn, hx, hd⟩ := IG underlying59 SC A0 h
 have key : ∀ r ∈ rows, ∃ b : El, r = b.cells ∧ (b.id.length ≤ reachBytes ∧ b.nm.length ≤ reachBytes ∧ b.inn.length ≤ reachBytes ∧ b.dflt.length ≤ reachBytes ∧ b.att.length ≤ reachBytes ∧ b.ref.length ≤ reachBytes ∧ b.key.length ≤ reachBytes) := by
  rcases hd with ⟨_, h0, _⟩ | ⟨sp, hs, _⟩
  ·have : rows = [] := List.eq_nil_of_length_eq_zero A0
   subst this
   exact fun r hr => by (cases hr)
  ·rw [hs] at hz
   intro r hr
   obtain ⟨i, hi⟩ := List.getElem?_of_mem hr
   obtain ⟨d, hdi, hrd⟩ := hx i r hi
   exact nE hrd (hz.elem underlying59 (List.mem_of_getElem? hdi))
 obtain ⟨l, rfl, hq⟩ := IU El.cells (fun b => b.id.length ≤ reachBytes ∧ b.nm.length ≤ reachBytes ∧ b.inn.length ≤ reachBytes ∧ b.dflt.length ≤ reachBytes ∧ b.att.length ≤ reachBytes ∧ b.ref.length ≤ reachBytes ∧ b.key.length ≤ reachBytes) rows key
 rw [List.length_map] at hl
 subst hl
 exact ⟨l, rfl, hq, hr⟩
theorem nD {r : List Value} {d : DataW H} (h : SL enc prog w 109 r d) (hz : Sized prog 109 d) : ∃ b : Fl, r = b.cells ∧ (b.id.length ≤ reachBytes ∧ b.frm.length ≤ reachBytes ∧ b.tg.length ≤ reachBytes ∧ b.cond.length ≤ reachBytes) := by
 obtain ⟨fuel, p, hf⟩ := h
 obtain ⟨xs, n, _, hx, hl, hlen, hfl⟩ := DataW.trod_struct underlying109 hf
 rw [SB] at hl
 match r, hl with
 | [c0, c1, c2, c3], _ =>
 match xs, hlen with
 | [y0, y1, y2, y3], _ =>
  simp only [Prod.mk.injEq] at hx
  obtain ⟨rfl, _⟩ := hx
  have k0 : DataW.trod enc prog w 0 (fun _ => true) true n 9 (List.take (prog.cellsOf 9) [c0, c1, c2, c3]) = some y0 := hfl 0 _ rfl
  rw [CV] at k0
  obtain ⟨s0, e0, d0, _⟩ := DataW.trod_string underlying9 k0
  obtain rfl : c0 = _ := by simpa using e0
  have z0 := Sized.field (j := 0) underlying109 hz rfl rfl
  rw [d0] at z0
  have k1 : DataW.trod enc prog w 0 (fun _ => true) true n 9 (List.take (prog.cellsOf 9) [c1, c2, c3]) = some y1 := hfl 1 _ rfl
  rw [CV] at k1
  obtain ⟨s1, e1, d1, _⟩ := DataW.trod_string underlying9 k1
  obtain rfl : c1 = _ := by simpa using e1
  have z1 := Sized.field (j := 1) underlying109 hz rfl rfl
  rw [d1] at z1
  have k2 : DataW.trod enc prog w 0 (fun _ => true) true n 9 (List.take (prog.cellsOf 9) [c2, c3]) = some y2 := hfl 2 _ rfl
  rw [CV] at k2
  obtain ⟨s2, e2, d2, _⟩ := DataW.trod_string underlying9 k2
  obtain rfl : c2 = _ := by simpa using e2
  have z2 := Sized.field (j := 2) underlying109 hz rfl rfl
  rw [d2] at z2
  have k3 : DataW.trod enc prog w 0 (fun _ => true) true n 9 (List.take (prog.cellsOf 9) [c3]) = some y3 := hfl 3 _ rfl
  rw [CV] at k3
  obtain ⟨s3, e3, d3, _⟩ := DataW.trod_string underlying9 k3
  obtain rfl : c3 = _ := by simpa using e3
  have z3 := Sized.field (j := 3) underlying109 hz rfl rfl
  rw [d3] at z3
  exact ⟨⟨s0.data.toList, s1.data.toList, s2.data.toList, s3.data.toList⟩, by rfl, z0.text, z1.text, z2.text, z3.text⟩
theorem rM {A : Option Addr} {len cap fuel : Nat} {x : DataW H × List MemPlace} (h : DataW.trod enc prog w 0 (fun _ => true) true fuel 60 [.slice A len cap] = some x) (hz : Sized prog 60 x.1) :
 ∃ l : List Fl, l.length = len ∧ (∀ b ∈ l, b.id.length ≤ reachBytes ∧ b.frm.length ≤ reachBytes ∧ b.tg.length ≤ reachBytes ∧ b.cond.length ≤ reachBytes) ∧ Rd w A (l.length * 4) (AB Fl.cells l) := by
 obtain ⟨rows, D, hl, hD, _, hr, _, _, hn, hx, hd⟩ := IG underlying60 SB A0 h
 have key : ∀ r ∈ rows, ∃ b : Fl, r = b.cells ∧ (b.id.length ≤ reachBytes ∧ b.frm.length ≤ reachBytes ∧ b.tg.length ≤ reachBytes ∧ b.cond.length ≤ reachBytes) := by
  rcases hd with ⟨_, h0, _⟩ | ⟨sp, hs, _⟩
  ·have : rows = [] := List.eq_nil_of_length_eq_zero A0
   subst this
   exact fun r hr => by (cases hr)
  ·rw [hs] at hz
   intro r hr
   obtain ⟨i, hi⟩ := List.getElem?_of_mem hr
   obtain ⟨d, hdi, hrd⟩ := hx i r hi
   exact nD hrd (hz.elem underlying60 (List.mem_of_getElem? hdi))
 obtain ⟨l, rfl, hq⟩ := IU Fl.cells (fun b => b.id.length ≤ reachBytes ∧ b.frm.length ≤ reachBytes ∧ b.tg.length ≤ reachBytes ∧ b.cond.length ≤ reachBytes) rows key
 rw [List.length_map] at hl
 subst hl
 exact ⟨l, rfl, hq, hr⟩
theorem n8 {r : List Value} {d : DataW H} (h : SL enc prog w 56 r d) (hz : Sized prog 56 d) : ∃ b : Tk, r = b.cells ∧ (b.loc.length ≤ reachBytes ∧ b.on.length ≤ reachBytes ∧ b.worker.length ≤ reachBytes) := by
 obtain ⟨fuel, p, hf⟩ := h
 obtain ⟨xs, n, _, hx, hl, hlen, hfl⟩ := DataW.trod_struct underlying56 hf
 rw [S8] at hl
 match r, hl with
 | [c0, c1, c2, c3, c4, c5, c6, c7, c8], _ =>
 match xs, hlen with
 | [y0, y1, y2, y3, y4, y5, y6, y7, y8], _ =>
  simp only [Prod.mk.injEq] at hx
  obtain ⟨rfl, _⟩ := hx
  have k0 : DataW.trod enc prog w 0 (fun _ => true) true n 3 (List.take (prog.cellsOf 3) [c0, c1, c2, c3, c4, c5, c6, c7, c8]) = some y0 := hfl 0 _ rfl
  rw [GJ] at k0
  obtain ⟨a0, e0, _⟩ := DataW.trod_int underlying3 k0
  obtain rfl : c0 = _ := by simpa using e0
  have k1 : DataW.trod enc prog w 0 (fun _ => true) true n 9 (List.take (prog.cellsOf 9) [c1, c2, c3, c4, c5, c6, c7, c8]) = some y1 := hfl 1 _ rfl
  rw [CV] at k1
  obtain ⟨s1, e1, d1, _⟩ := DataW.trod_string underlying9 k1
  obtain rfl : c1 = _ := by simpa using e1
  have z1 := Sized.field (j := 1) underlying56 hz rfl rfl
  rw [d1] at z1
  have k2 : DataW.trod enc prog w 0 (fun _ => true) true n 9 (List.take (prog.cellsOf 9) [c2, c3, c4, c5, c6, c7, c8]) = some y2 := hfl 2 _ rfl
  rw [CV] at k2
  obtain ⟨s2, e2, d2, _⟩ := DataW.trod_string underlying9 k2
  obtain rfl : c2 = _ := by simpa using e2
  have z2 := Sized.field (j := 2) underlying56 hz rfl rfl
  rw [d2] at z2
  have k3 : DataW.trod enc prog w 0 (fun _ => true) true n 3 (List.take (prog.cellsOf 3) [c3, c4, c5, c6, c7, c8]) = some y3 := hfl 3 _ rfl
  rw [GJ] at k3
  obtain ⟨a3, e3, _⟩ := DataW.trod_int underlying3 k3
  obtain rfl : c3 = _ := by simpa using e3
  have k4 : DataW.trod enc prog w 0 (fun _ => true) true n 3 (List.take (prog.cellsOf 3) [c4, c5, c6, c7, c8]) = some y4 := hfl 4 _ rfl
  rw [GJ] at k4
  obtain ⟨a4, e4, _⟩ := DataW.trod_int underlying3 k4
  obtain rfl : c4 = _ := by simpa using e4
  have k5 : DataW.trod enc prog w 0 (fun _ => true) true n 9 (List.take (prog.cellsOf 9) [c5, c6, c7, c8]) = some y5 := hfl 5 _ rfl
  rw [CV] at k5
  obtain ⟨s5, e5, d5, _⟩ := DataW.trod_string underlying9 k5
  obtain rfl : c5 = _ := by simpa using e5
  have z5 := Sized.field (j := 5) underlying56 hz rfl rfl
  rw [d5] at z5
  have k6 : DataW.trod enc prog w 0 (fun _ => true) true n 3 (List.take (prog.cellsOf 3) [c6, c7, c8]) = some y6 := hfl 6 _ rfl
  rw [GJ] at k6
  obtain ⟨a6, e6, _⟩ := DataW.trod_int underlying3 k6
  obtain rfl : c6 = _ := by simpa using e6
  have k7 : DataW.trod enc prog w 0 (fun _ => true) true n 5 (List.take (prog.cellsOf 5) [c7, c8]) = some y7 := hfl 7 _ rfl
  rw [OF] at k7
  obtain ⟨a7, e7, _, w7⟩ := DataW.trod_int underlying5 k7
  obtain rfl : c7 = _ := by simpa using e7
  have k8 : DataW.trod enc prog w 0 (fun _ => true) true n 51 (List.take (prog.cellsOf 51) [c8]) = some y8 := hfl 8 _ rfl
  rw [eP] at k8
  obtain ⟨a8, e8, _⟩ := DataW.trod_int underlying51 k8
  obtain rfl : c8 = _ := by simpa using e8
  exact ⟨⟨a0, s1.data.toList, s2.data.toList, a3, a4, s5.data.toList, a6, UInt8.ofNat a7.toNat, a8⟩, by rw [VQ w7]; rfl, z1.text, z2.text, z5.text⟩
theorem oJ {A : Option Addr} {len cap fuel : Nat} {x : DataW H × List MemPlace} (h : DataW.trod enc prog w 0 (fun _ => true) true fuel 31 [.slice A len cap] = some x) (hz : Sized prog 31 x.1) :
 ∃ l : List Tk, l.length = len ∧ (∀ b ∈ l, b.loc.length ≤ reachBytes ∧ b.on.length ≤ reachBytes ∧ b.worker.length ≤ reachBytes) ∧ Rd w A (l.length * 9) (AB Tk.cells l) := by
 obtain ⟨rows, D, hl, hD, _, hr, _, _, hn, hx, hd⟩ := IG underlying31 S8 A0 h
 have key : ∀ r ∈ rows, ∃ b : Tk, r = b.cells ∧ (b.loc.length ≤ reachBytes ∧ b.on.length ≤ reachBytes ∧ b.worker.length ≤ reachBytes) := by
  rcases hd with ⟨_, h0, _⟩ | ⟨sp, hs, _⟩
  ·have : rows = [] := List.eq_nil_of_length_eq_zero A0
   subst this
   exact fun r hr => by (cases hr)
  ·rw [hs] at hz
   intro r hr
   obtain ⟨i, hi⟩ := List.getElem?_of_mem hr
   obtain ⟨d, hdi, hrd⟩ := hx i r hi
   exact n8 hrd (hz.elem underlying31 (List.mem_of_getElem? hdi))
 obtain ⟨l, rfl, hq⟩ := IU Tk.cells (fun b => b.loc.length ≤ reachBytes ∧ b.on.length ≤ reachBytes ∧ b.worker.length ≤ reachBytes) rows key
 rw [List.length_map] at hl
 subst hl
 exact ⟨l, rfl, hq, hr⟩
theorem JL {t e : TypeId} {n : Nat} {c : Value} {x : DataW H × List MemPlace} (ht : prog.underlying t = some (.slice e)) (k : DataW.trod enc prog w 0 (fun _ => true) true n t [c] = some x) : ∃ A len cap, c = .slice A len cap := by
 rcases open_slice ht k with ⟨hcs, _⟩ | ⟨a, len, cap, m, n, D, Pl, hcs, _⟩
 ·exact ⟨none, 0, 0, by simpa using hcs⟩
 ·exact ⟨some a, len, cap, by simpa using hcs⟩
end
theorem X8 {l : List (String × DataW Unit)} {W : World} {n nm : String} {d : DataW Unit} {g : Nat} (hL : laidMet prog l W) (hm : (n, .iface nm d) ∈ l) (hg : prog.globalNamed n = some g) (ht : (prog.globals[g]?).map (·.type) = some 240) : ∃ t p, W.cell? ⟨g, 0, none⟩ = some (.iface t p) := by
 obtain ⟨ps, hv, _, _⟩ := hL
 obtain ⟨g', t', cs, fuel, q, e1, e2, e3, e4⟩ := O4 hv hm
 obtain rfl := Option.some.inj (hg.symm.trans e1)
 obtain rfl := Option.some.inj (ht.symm.trans e2)
 obtain ⟨cs⟩ := cs
 have h0 := World.var?_cell hg e3 0
 cases fuel with
 | zero => simp [DataW.trod] at e4
 | succ fuel =>
  match cs, e4, h0 with
  | [], e4, _ => simp [DataW.trod, underlying240] at e4
  | [E], e4, h0 =>
   cases E with
   | iface u v => exact ⟨u, v, by simpa using h0⟩
   | _ => simp [DataW.trod, underlying240] at e4
  | _ :: _ :: _, e4, _ => simp [DataW.trod, underlying240] at e4
theorem o9 {l : List (String × DataW Unit)} {W : World} {d1 d2 : DataW Unit} {n1 n2 : String} (hL : laidMet prog l W) (hu : Laid W utfL) (h1 : ("strconv.ErrSyntax", .iface n1 d1) ∈ l) (h2 : ("strconv.ErrRange", .iface n2 d2) ∈ l) : Lay0 W := by
 obtain ⟨t, p, e1⟩ := X8 hL h1 (g := 2) gkr gkr
 obtain ⟨t', p', e2⟩ := X8 hL h2 (g := 3) gkr gkr
 refine ⟨hu, ⟨⟨t, p, e1⟩, t', p', e2⟩, ?_⟩
 have b1 := World.block_lt_of_cell? W _ e1
 have b2 := World.block_lt_of_cell? W _ e2
 obtain ⟨_, _, b3⟩ := hu _ (List.mem_cons_self ..)
 obtain ⟨_, _, b4⟩ := hu _ (List.mem_cons_of_mem _ (List.mem_cons_self ..))
 have b3 := (Array.getElem?_eq_some_iff.1 b3).1
 have b4 := (Array.getElem?_eq_some_iff.1 b4).1
 simp only at b1 b2 b3 b4
 unfold nGlob
 omega
end
open Go.RowKit
section
section
variable {m : Md} {c : CrA} {kept : List Tk} {σ : Mo}
variable (R : Rl m)
include R
variable (Z : Cz m c)
include Z
end
end
section
section
variable {m : Md} {c : CrA}
variable (R : Rl m)
include R
variable (Z : Cz m c)
include Z
end
end
theorem sC : BdOk [] := ⟨by decide, fun x hx => (by cases hx), fun x hx => (by cases hx)⟩
theorem VF {b0 b1 : Nat} {w w2 : World} (h : ∀ g ∈ [] ++ List.range' b0 (b1 - b0), g < w.heap.size → w2.heap[g]? = w.heap[g]?) (hb : w.heap.size ≤ b1 := by exact Nat.le_refl _) : SM b0 [] w w2 := fun g hg hlt => h g (by
 rw [List.nil_append, List.mem_range'_1]
 rcases hg with hg | hg
 ·cases hg
 ·omega) hlt
theorem UP {b0 b1 : Nat} {P : World → Prop} : ∀ g ∈ (As.res b0 b1 [] P).fp, b0 ≤ g ∧ g < b1 := fun g hg => by
 have hg : g ∈ [] ++ List.range' b0 (b1 - b0) := hg
 rw [List.nil_append, List.mem_range'_1] at hg
 omega
structure St where
 pl : Int
 tk : Tk
def St.cells (a : St) : List Value := .int .i64 a.pl :: a.tk.cells
theorem St.len (a : St) : a.cells.length = 10 := rfl
theorem St.cells_one (a : St) : ∀ u ∈ a.cells, u.oneCell' = true := BG rfl
structure Ht where
 pl : Int
 tok : Int
 via : List UInt8
def Ht.cells (a : Ht) : List Value := [.int .i64 a.pl, .int .i64 a.tok, str a.via]
theorem Ht.cells_one (a : Ht) : ∀ u ∈ a.cells, u.oneCell' = true := BG rfl
structure Pa where
 p : Option Addr
 m : Md
 c : CrA
 F : List Nat
 i : In
 V : Option Addr
 vc : Nat
 T : Option Addr
 tc : Nat
def Pa.cells (x : Pa) : List Value := .pointer x.p :: In.cells x.i x.V x.T x.vc x.tc
theorem Pa.len (x : Pa) : x.cells.length = 6 := rfl
theorem RL : (prog.info? 119).map (fun i => (i.zero, i.size, i.bytes)) = some (some (.agg #[AA 0, AA 0, str [], str [], AA 0, AA 0, str [], AA 0, .int .u8 0, AA 0]), 10, 104) := by kernel_rfl
theorem BA : (prog.info? 119).map (·.size) = some 10 := by kernel_rfl
theorem TZ : (prog.info? 119).map (·.zero) = some (some (.agg #[AA 0, AA 0, str [], str [], AA 0, AA 0, str [], AA 0, .int .u8 0, AA 0])) := by kernel_rfl
theorem BQ : (prog.info? 38).map (·.size) = some 3 := by kernel_rfl
theorem DY : (prog.info? 38).map (·.zero) = some (some (.agg #[AA 0, AA 0, str []])) := by kernel_rfl
theorem EW : (prog.info? 36).map (·.size) = some 6 := by kernel_rfl
theorem MG : (prog.info? 36).map (·.zero) = some (some (.agg #[.pointer none, AA 0, str [], .int .u8 0, .slice none 0 0, .slice none 0 0])) := by kernel_rfl
structure PaOk (w : World) (x : Pa) : Prop where
 cr : x.p = none ∨ ∃ gc, x.p = some ⟨gc, 0, none⟩ ∧ CourseN w x.m gc x.c x.F ∧ GS x.m = true ∧ MdOk x.m
 V : Rd w x.V (x.i.vars.length * 5) (AB Bd.cells x.i.vars)
 T : Rd w x.T (x.i.toks.length * 9) (AB Tk.cells x.i.toks)
 bd : BdOk x.i.vars
 tl : x.i.toks.length ≤ 300
 wk : ∀ t ∈ x.i.toks, (t.worker.length : Int) < 4611686018427387904
structure Pts (w : World) (A : Option Addr) (l : List Pa) : Prop where
 rd : Rd w A (l.length * 6) (AB Pa.cells l)
 ok : ∀ x ∈ l, PaOk w x
 len : l.length ≤ 8
theorem PaOk.fr0 {w w' : World} {x : Pa} (h : PaOk w x) (hf : Fr0 w w') : PaOk w' x :=
 ⟨h.cr.imp id fun ⟨gc, h1, h2, h3⟩ => ⟨gc, h1, h2.fr0 hf, h3⟩, h.V.fr0 hf, h.T.fr0 hf, h.bd, h.tl, h.wk⟩
theorem Pts.fr0 {w w' : World} {A : Option Addr} {l : List Pa} (h : Pts w A l) (hf : Fr0 w w') : Pts w' A l := ⟨h.rd.fr0 hf, fun x hx => (h.ok x hx).fr0 hf, h.len⟩
def runP (x : Pa) : Bool := x.p.isSome && (decide ((x.i.st.toNat : Int) = 1) && GC x.m x.c x.i 2147483647 1099511627776)
def HD (x : Pa) (j : Nat) : List St := if runP x = true then x.i.toks.map (fun t => ⟨((j : Nat) : Int), t⟩) else []
def E2 : List Pa → Nat → List St
 | [], _ => []
 | x :: r, j => HD x j ++ E2 r (j + 1)
theorem PN (x : Pa) : ∀ (l : List Pa) (j : Nat), E2 (l ++ [x]) j = E2 l j ++ HD x (j + l.length)
 | [], j => by simp [E2]
 | y :: r, j => by
  rw [List.cons_append, E2, E2, PN x r, List.append_assoc, List.length_cons, show j + 1 + r.length = j + (r.length + 1) by omega]
theorem PM {l : List Pa} {j : Nat} {x : Pa} (hx : l[j]? = some x) : E2 (l.take (j + 1)) 0 = E2 (l.take j) 0 ++ HD x j := by
 have := (List.getElem?_eq_some_iff.1 hx).1
 rw [AJ hx, PN, Nat.zero_add, List.length_take, Nat.min_eq_left A0]
theorem R2 {s : St} : ∀ {l : List Pa} {j : Nat}, s ∈ E2 l j → ∃ k x, s.pl = ((j + k : Nat) : Int) ∧ l[k]? = some x ∧ runP x = true ∧ s.tk ∈ x.i.toks
 | [], _, h => by cases h
 | y :: r, j, h => by
  rcases List.mem_append.1 h with h | h
  ·unfold HD at h
   split at h
   ·rename_i hr
    obtain ⟨t, ht, rfl⟩ := List.mem_map.1 h
    exact ⟨0, y, rfl, rfl, hr, ht⟩
   ·cases h
  ·obtain ⟨k, x, h1, h2, h3⟩ := R2 h
   exact ⟨k + 1, x, by rw [h1]; congr 1; omega, h2, h3⟩
theorem R3 : ∀ {l : List Pa} {j : Nat}, (∀ x ∈ l, x.i.toks.length ≤ 300) → (E2 l j).length ≤ l.length * 300
 | [], _, _ => Nat.le_refl _
 | x :: r, j, h => by
  have h1 := R3 (l := r) (j := j + 1) fun y hy => h y (List.mem_cons_of_mem _ hy)
  have h2 : (HD x j).length ≤ 300 := by
   unfold HD
   split
   ·rw [List.length_map]; exact h x List.mem_cons_self
   ·exact Nat.zero_le _
  rw [E2, List.length_append, List.length_cons]; omega
end Go.Proofs.YtaheakjfkpkefaaGreatDoor
