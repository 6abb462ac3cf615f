/- Lemmas that the last text rests on. Condition: each says its own. -/
import Derived.Test.YtadgfojhjnkliaaGreatDoorZMvIn
set_option maxHeartbeats 16000000
set_option maxRecDepth 100000
namespace Go.Proofs.YtadgfojhjnkliaaGreatDoor
open Go.ChangeShapes Go.WideShapes Go.ChangeAt Go.RowKit Go.Deep Go.Joins
open Tryz
theorem X6 : prog.cellsOf 62 = 11 := by kernel_rfl
theorem X5 : prog.cellsOf 65 = 4 := by kernel_rfl
theorem l6 : prog.cellsOf 29 = 9 := by kernel_rfl
theorem I0 : prog.cellsOf 3 = 1 := by kernel_rfl
theorem eX : prog.cellsOf 27 = 1 := by kernel_rfl
theorem eY : prog.cellsOf 23 = 1 := by kernel_rfl
theorem eW : prog.cellsOf 24 = 1 := by kernel_rfl
section
variable {H : Type} {enc : TypeId × Value → H} {w : World}
theorem n6 {r : List Value} {d : DataW H} (h : bQ enc prog w 62 r d) (hz : Sized prog 62 d) : ∃ b : El, r = b.cells ∧ (b.id.length ≤ reachBytes ∧ b.nm.length ≤ reachBytes ∧ b.inn.length ≤ reachBytes ∧ b.dflt.length ≤ reachBytes ∧ b.att.length ≤ reachBytes ∧ b.ref.length ≤ reachBytes ∧ b.key.length ≤ reachBytes) := by
 obtain ⟨fuel, p, hf⟩ := h
 obtain ⟨xs, n, _, hx, hl, hlen, hfl⟩ := DataW.trod_struct underlying62 hf
 rw [X6] at hl
 match r, hl with
 | [c0, c1, c2, c3, c4, c5, c6, c7, c8, c9, c10], _ =>
 match xs, hlen with
 | [y0, y1, y2, y3, y4, y5, y6, y7, y8, y9, y10], _ =>
  simp only [Prod.mk.injEq] at hx
  obtain ⟨rfl, _⟩ := hx
  have k0 : DataW.trod enc prog w 0 (fun _ => true) true n 9 (List.take (prog.cellsOf 9) [c0, c1, c2, c3, c4, c5, c6, c7, c8, c9, c10]) = some y0 := hfl 0 _ rfl
  rw [D6] at k0
  obtain ⟨s0, e0, d0, _⟩ := DataW.trod_string underlying9 k0
  obtain rfl : c0 = _ := by simpa using e0
  have z0 := Sized.field (j := 0) underlying62 hz rfl rfl
  rw [d0] at z0
  have k1 : DataW.trod enc prog w 0 (fun _ => true) true n 9 (List.take (prog.cellsOf 9) [c1, c2, c3, c4, c5, c6, c7, c8, c9, c10]) = some y1 := hfl 1 _ rfl
  rw [D6] at k1
  obtain ⟨s1, e1, d1, _⟩ := DataW.trod_string underlying9 k1
  obtain rfl : c1 = _ := by simpa using e1
  have z1 := Sized.field (j := 1) underlying62 hz rfl rfl
  rw [d1] at z1
  have k2 : DataW.trod enc prog w 0 (fun _ => true) true n 5 (List.take (prog.cellsOf 5) [c2, c3, c4, c5, c6, c7, c8, c9, c10]) = some y2 := hfl 2 _ rfl
  rw [N1] at k2
  obtain ⟨a2, e2, _, w2⟩ := DataW.trod_int underlying5 k2
  obtain rfl : c2 = _ := by simpa using e2
  have k3 : DataW.trod enc prog w 0 (fun _ => true) true n 9 (List.take (prog.cellsOf 9) [c3, c4, c5, c6, c7, c8, c9, c10]) = some y3 := hfl 3 _ rfl
  rw [D6] at k3
  obtain ⟨s3, e3, d3, _⟩ := DataW.trod_string underlying9 k3
  obtain rfl : c3 = _ := by simpa using e3
  have z3 := Sized.field (j := 3) underlying62 hz rfl rfl
  rw [d3] at z3
  have k4 : DataW.trod enc prog w 0 (fun _ => true) true n 9 (List.take (prog.cellsOf 9) [c4, c5, c6, c7, c8, c9, c10]) = some y4 := hfl 4 _ rfl
  rw [D6] at k4
  obtain ⟨s4, e4, d4, _⟩ := DataW.trod_string underlying9 k4
  obtain rfl : c4 = _ := by simpa using e4
  have z4 := Sized.field (j := 4) underlying62 hz rfl rfl
  rw [d4] at z4
  have k5 : DataW.trod enc prog w 0 (fun _ => true) true n 9 (List.take (prog.cellsOf 9) [c5, c6, c7, c8, c9, c10]) = some y5 := hfl 5 _ rfl
  rw [D6] at k5
  obtain ⟨s5, e5, d5, _⟩ := DataW.trod_string underlying9 k5
  obtain rfl : c5 = _ := by simpa using e5
  have z5 := Sized.field (j := 5) underlying62 hz rfl rfl
  rw [d5] at z5
  have k6 : DataW.trod enc prog w 0 (fun _ => true) true n 5 (List.take (prog.cellsOf 5) [c6, c7, c8, c9, c10]) = some y6 := hfl 6 _ rfl
  rw [N1] at k6
  obtain ⟨a6, e6, _, w6⟩ := DataW.trod_int underlying5 k6
  obtain rfl : c6 = _ := by simpa using e6
  have k7 : DataW.trod enc prog w 0 (fun _ => true) true n 9 (List.take (prog.cellsOf 9) [c7, c8, c9, c10]) = some y7 := hfl 7 _ rfl
  rw [D6] at k7
  obtain ⟨s7, e7, d7, _⟩ := DataW.trod_string underlying9 k7
  obtain rfl : c7 = _ := by simpa using e7
  have z7 := Sized.field (j := 7) underlying62 hz rfl rfl
  rw [d7] at z7
  have k8 : DataW.trod enc prog w 0 (fun _ => true) true n 9 (List.take (prog.cellsOf 9) [c8, c9, c10]) = some y8 := hfl 8 _ rfl
  rw [D6] at k8
  obtain ⟨s8, e8, d8, _⟩ := DataW.trod_string underlying9 k8
  obtain rfl : c8 = _ := by simpa using e8
  have z8 := Sized.field (j := 8) underlying62 hz rfl rfl
  rw [d8] at z8
  have k9 : DataW.trod enc prog w 0 (fun _ => true) true n 3 (List.take (prog.cellsOf 3) [c9, c10]) = some y9 := hfl 9 _ rfl
  rw [I0] at k9
  obtain ⟨a9, e9, _⟩ := DataW.trod_int underlying3 k9
  obtain rfl : c9 = _ := by simpa using e9
  have k10 : DataW.trod enc prog w 0 (fun _ => true) true n 3 (List.take (prog.cellsOf 3) [c10]) = some y10 := hfl 10 _ rfl
  rw [I0] at k10
  obtain ⟨a10, e10, _⟩ := DataW.trod_int underlying3 k10
  obtain rfl : c10 = _ := by simpa using e10
  exact ⟨⟨s0.data.toList, s1.data.toList, UInt8.ofNat a2.toNat, s3.data.toList, s4.data.toList, s5.data.toList, UInt8.ofNat a6.toNat, s7.data.toList, s8.data.toList, a9, a10⟩, by rw [ZJ w2, ZJ w6]; rfl, z0.text, z1.text, z3.text, z4.text, z5.text, z7.text, z8.text⟩
theorem rL {A : Option Addr} {len cap fuel : Nat} {x : DataW H × List MemPlace} (h : DataW.trod enc prog w 0 (fun _ => true) true fuel 23 [.slice A len cap] = some x) (hz : Sized prog 23 x.1) :
 ∃ l : List El, l.length = len ∧ (∀ b ∈ l, b.id.length ≤ reachBytes ∧ b.nm.length ≤ reachBytes ∧ b.inn.length ≤ reachBytes ∧ b.dflt.length ≤ reachBytes ∧ b.att.length ≤ reachBytes ∧ b.ref.length ≤ reachBytes ∧ b.key.length ≤ reachBytes) ∧ Rd w A (l.length * 11) (AR El.cells l) := by
 obtain ⟨rows, D, hl, hD, _, hr, _, _, hn, hx, hd⟩ := QB underlying23 X6 (by omega) h
 have key : ∀ r ∈ rows, ∃ b : El, r = b.cells ∧ (b.id.length ≤ reachBytes ∧ b.nm.length ≤ reachBytes ∧ b.inn.length ≤ reachBytes ∧ b.dflt.length ≤ reachBytes ∧ b.att.length ≤ reachBytes ∧ b.ref.length ≤ reachBytes ∧ b.key.length ≤ reachBytes) := by
  rcases hd with ⟨_, h0, _⟩ | ⟨sp, hs, _⟩
  ·have : rows = [] := List.eq_nil_of_length_eq_zero (by omega)
   subst this
   exact fun r hr => by (cases hr)
  ·rw [hs] at hz
   intro r hr
   obtain ⟨i, hi⟩ := List.getElem?_of_mem hr
   obtain ⟨d, hdi, hrd⟩ := hx i r hi
   exact n6 hrd (hz.elem underlying23 (List.mem_of_getElem? hdi))
 obtain ⟨l, rfl, hq⟩ := N8 El.cells (fun b => b.id.length ≤ reachBytes ∧ b.nm.length ≤ reachBytes ∧ b.inn.length ≤ reachBytes ∧ b.dflt.length ≤ reachBytes ∧ b.att.length ≤ reachBytes ∧ b.ref.length ≤ reachBytes ∧ b.key.length ≤ reachBytes) rows key
 rw [List.length_map] at hl
 subst hl
 exact ⟨l, rfl, hq, hr⟩
theorem mZ {r : List Value} {d : DataW H} (h : bQ enc prog w 65 r d) (hz : Sized prog 65 d) : ∃ b : Fl, r = b.cells ∧ (b.id.length ≤ reachBytes ∧ b.frm.length ≤ reachBytes ∧ b.tg.length ≤ reachBytes ∧ b.cond.length ≤ reachBytes) := by
 obtain ⟨fuel, p, hf⟩ := h
 obtain ⟨xs, n, _, hx, hl, hlen, hfl⟩ := DataW.trod_struct underlying65 hf
 rw [X5] at hl
 match r, hl with
 | [c0, c1, c2, c3], _ =>
 match xs, hlen with
 | [y0, y1, y2, y3], _ =>
  simp only [Prod.mk.injEq] at hx
  obtain ⟨rfl, _⟩ := hx
  have k0 : DataW.trod enc prog w 0 (fun _ => true) true n 9 (List.take (prog.cellsOf 9) [c0, c1, c2, c3]) = some y0 := hfl 0 _ rfl
  rw [D6] at k0
  obtain ⟨s0, e0, d0, _⟩ := DataW.trod_string underlying9 k0
  obtain rfl : c0 = _ := by simpa using e0
  have z0 := Sized.field (j := 0) underlying65 hz rfl rfl
  rw [d0] at z0
  have k1 : DataW.trod enc prog w 0 (fun _ => true) true n 9 (List.take (prog.cellsOf 9) [c1, c2, c3]) = some y1 := hfl 1 _ rfl
  rw [D6] at k1
  obtain ⟨s1, e1, d1, _⟩ := DataW.trod_string underlying9 k1
  obtain rfl : c1 = _ := by simpa using e1
  have z1 := Sized.field (j := 1) underlying65 hz rfl rfl
  rw [d1] at z1
  have k2 : DataW.trod enc prog w 0 (fun _ => true) true n 9 (List.take (prog.cellsOf 9) [c2, c3]) = some y2 := hfl 2 _ rfl
  rw [D6] at k2
  obtain ⟨s2, e2, d2, _⟩ := DataW.trod_string underlying9 k2
  obtain rfl : c2 = _ := by simpa using e2
  have z2 := Sized.field (j := 2) underlying65 hz rfl rfl
  rw [d2] at z2
  have k3 : DataW.trod enc prog w 0 (fun _ => true) true n 9 (List.take (prog.cellsOf 9) [c3]) = some y3 := hfl 3 _ rfl
  rw [D6] at k3
  obtain ⟨s3, e3, d3, _⟩ := DataW.trod_string underlying9 k3
  obtain rfl : c3 = _ := by simpa using e3
  have z3 := Sized.field (j := 3) underlying65 hz rfl rfl
  rw [d3] at z3
  exact ⟨⟨s0.data.toList, s1.data.toList, s2.data.toList, s3.data.toList⟩, by rfl, z0.text, z1.text, z2.text, z3.text⟩
theorem rK {A : Option Addr} {len cap fuel : Nat} {x : DataW H × List MemPlace} (h : DataW.trod enc prog w 0 (fun _ => true) true fuel 24 [.slice A len cap] = some x) (hz : Sized prog 24 x.1) :
 ∃ l : List Fl, l.length = len ∧ (∀ b ∈ l, b.id.length ≤ reachBytes ∧ b.frm.length ≤ reachBytes ∧ b.tg.length ≤ reachBytes ∧ b.cond.length ≤ reachBytes) ∧ Rd w A (l.length * 4) (AR Fl.cells l) := by
 obtain ⟨rows, D, hl, hD, _, hr, _, _, hn, hx, hd⟩ := QB underlying24 X5 (by omega) h
 have key : ∀ r ∈ rows, ∃ b : Fl, r = b.cells ∧ (b.id.length ≤ reachBytes ∧ b.frm.length ≤ reachBytes ∧ b.tg.length ≤ reachBytes ∧ b.cond.length ≤ reachBytes) := by
  rcases hd with ⟨_, h0, _⟩ | ⟨sp, hs, _⟩
  ·have : rows = [] := List.eq_nil_of_length_eq_zero (by omega)
   subst this
   exact fun r hr => by (cases hr)
  ·rw [hs] at hz
   intro r hr
   obtain ⟨i, hi⟩ := List.getElem?_of_mem hr
   obtain ⟨d, hdi, hrd⟩ := hx i r hi
   exact mZ hrd (hz.elem underlying24 (List.mem_of_getElem? hdi))
 obtain ⟨l, rfl, hq⟩ := N8 Fl.cells (fun b => b.id.length ≤ reachBytes ∧ b.frm.length ≤ reachBytes ∧ b.tg.length ≤ reachBytes ∧ b.cond.length ≤ reachBytes) rows key
 rw [List.length_map] at hl
 subst hl
 exact ⟨l, rfl, hq, hr⟩
theorem jA {r : Reach} {b0 : Nat} {v : Value} {d : DataW H} {p : List MemPlace} (hv : Value.okWide prog w r b0 29 v) (h : DataW.Trod enc prog w 0 (fun _ => true) true 29 v d p) : ∃ t : Tk, v = .agg t.cells.toArray := by
 obtain ⟨cs, rfl, hsz⟩ := okWide_struct underlying29 hv
 rw [l6] at hsz
 obtain ⟨fuel, hf⟩ := h
 obtain ⟨xs, n, _, _, _, hlen, hfl⟩ := DataW.trod_struct underlying29 hf
 obtain ⟨cs⟩ := cs
 match cs, hsz with
 | [c0, c1, c2, c3, c4, c5, c6, c7, c8], _ =>
 match xs, hlen with
 | [y0, y1, y2, y3, y4, y5, y6, y7, y8], _ =>
  have k0 : DataW.trod enc prog w 0 (fun _ => true) true n 3 (List.take (prog.cellsOf 3) [c0, c1, c2, c3, c4, c5, c6, c7, c8]) = some y0 := hfl 0 _ rfl
  rw [I0] at k0
  obtain ⟨a0, e0, _⟩ := DataW.trod_int underlying3 k0
  obtain rfl : c0 = _ := by simpa using e0
  have k1 : DataW.trod enc prog w 0 (fun _ => true) true n 9 (List.take (prog.cellsOf 9) [c1, c2, c3, c4, c5, c6, c7, c8]) = some y1 := hfl 1 _ rfl
  rw [D6] at k1
  obtain ⟨s1, e1, _, _⟩ := DataW.trod_string underlying9 k1
  obtain rfl : c1 = _ := by simpa using e1
  have k2 : DataW.trod enc prog w 0 (fun _ => true) true n 9 (List.take (prog.cellsOf 9) [c2, c3, c4, c5, c6, c7, c8]) = some y2 := hfl 2 _ rfl
  rw [D6] at k2
  obtain ⟨s2, e2, _, _⟩ := DataW.trod_string underlying9 k2
  obtain rfl : c2 = _ := by simpa using e2
  have k3 : DataW.trod enc prog w 0 (fun _ => true) true n 3 (List.take (prog.cellsOf 3) [c3, c4, c5, c6, c7, c8]) = some y3 := hfl 3 _ rfl
  rw [I0] at k3
  obtain ⟨a3, e3, _⟩ := DataW.trod_int underlying3 k3
  obtain rfl : c3 = _ := by simpa using e3
  have k4 : DataW.trod enc prog w 0 (fun _ => true) true n 3 (List.take (prog.cellsOf 3) [c4, c5, c6, c7, c8]) = some y4 := hfl 4 _ rfl
  rw [I0] at k4
  obtain ⟨a4, e4, _⟩ := DataW.trod_int underlying3 k4
  obtain rfl : c4 = _ := by simpa using e4
  have k5 : DataW.trod enc prog w 0 (fun _ => true) true n 9 (List.take (prog.cellsOf 9) [c5, c6, c7, c8]) = some y5 := hfl 5 _ rfl
  rw [D6] at k5
  obtain ⟨s5, e5, _, _⟩ := DataW.trod_string underlying9 k5
  obtain rfl : c5 = _ := by simpa using e5
  have k6 : DataW.trod enc prog w 0 (fun _ => true) true n 3 (List.take (prog.cellsOf 3) [c6, c7, c8]) = some y6 := hfl 6 _ rfl
  rw [I0] at k6
  obtain ⟨a6, e6, _⟩ := DataW.trod_int underlying3 k6
  obtain rfl : c6 = _ := by simpa using e6
  have k7 : DataW.trod enc prog w 0 (fun _ => true) true n 5 (List.take (prog.cellsOf 5) [c7, c8]) = some y7 := hfl 7 _ rfl
  rw [N1] at k7
  obtain ⟨a7, e7, _, w7⟩ := DataW.trod_int underlying5 k7
  obtain rfl : c7 = _ := by simpa using e7
  have k8 : DataW.trod enc prog w 0 (fun _ => true) true n 27 (List.take (prog.cellsOf 27) [c8]) = some y8 := hfl 8 _ rfl
  rw [eX] at k8
  obtain ⟨a8, e8, _⟩ := DataW.trod_int underlying27 k8
  obtain rfl : c8 = _ := by simpa using e8
  exact ⟨⟨a0, s1.data.toList, s2.data.toList, a3, a4, s5.data.toList, a6, UInt8.ofNat a7.toNat, a8⟩, by rw [ZJ w7]; rfl⟩
theorem Q6 {t e : TypeId} {n : Nat} {c : Value} {x : DataW H × List MemPlace} (ht : prog.underlying t = some (.slice e)) (k : DataW.trod enc prog w 0 (fun _ => true) true n t [c] = some x) : ∃ A len cap, c = .slice A len cap := by
 rcases open_slice ht k with ⟨hcs, _⟩ | ⟨a, len, cap, m, n, D, Pl, hcs, _⟩
 ·exact ⟨none, 0, 0, by simpa using hcs⟩
 ·exact ⟨some a, len, cap, by simpa using hcs⟩
theorem t8 {r : Reach} {b0 : Nat} {v : Value} {d : DataW H} {p : List MemPlace} (hv : Value.okWide prog w r b0 26 v) (h : DataW.Trod enc prog w 0 (fun _ => true) true 26 v d p) (hz : Sized prog 26 d) :
 ∃ (m : Md) (a : MdA), v = .agg (Md.cells m a).toArray ∧ MdStr m ∧ MdIn w m a := by
 obtain ⟨cs, rfl, hsz⟩ := okWide_struct underlying26 hv
 rw [X4] at hsz
 obtain ⟨fuel, hf⟩ := h
 obtain ⟨xs, n, _, hx, hl, hlen, hfl⟩ := DataW.trod_struct underlying26 hf
 obtain ⟨cs⟩ := cs
 match cs, hsz with
 | [c0, c1, c2, c3, c4], _ =>
 match xs, hlen with
 | [y0, y1, y2, y3, y4], _ =>
  have k0 : DataW.trod enc prog w 0 (fun _ => true) true n 9 (List.take (prog.cellsOf 9) [c0, c1, c2, c3, c4]) = some y0 := hfl 0 _ rfl
  have k1 : DataW.trod enc prog w 0 (fun _ => true) true n 9 (List.take (prog.cellsOf 9) [c1, c2, c3, c4]) = some y1 := hfl 1 _ rfl
  have k2 : DataW.trod enc prog w 0 (fun _ => true) true n 22 (List.take (prog.cellsOf 22) [c2, c3, c4]) = some y2 := hfl 2 _ rfl
  have k3 : DataW.trod enc prog w 0 (fun _ => true) true n 23 (List.take (prog.cellsOf 23) [c3, c4]) = some y3 := hfl 3 _ rfl
  have k4 : DataW.trod enc prog w 0 (fun _ => true) true n 24 (List.take (prog.cellsOf 24) [c4]) = some y4 := hfl 4 _ rfl
  rw [D6] at k0 k1
  rw [X7] at k2
  rw [eY] at k3
  rw [eW] at k4
  injection hx with hx1 hx2
  rw [hx1] at hz
  obtain ⟨s0, e0, d0, _⟩ := DataW.trod_string underlying9 k0
  obtain ⟨s1, e1, d1, _⟩ := DataW.trod_string underlying9 k1
  obtain rfl : c0 = _ := by simpa using e0
  obtain rfl : c1 = _ := by simpa using e1
  have z0 := Sized.field (j := 0) underlying26 hz rfl rfl
  have z1 := Sized.field (j := 1) underlying26 hz rfl rfl
  have z2 := Sized.field (j := 2) underlying26 hz rfl rfl
  have z3 := Sized.field (j := 3) underlying26 hz rfl rfl
  have z4 := Sized.field (j := 4) underlying26 hz rfl rfl
  rw [d0] at z0
  rw [d1] at z1
  obtain ⟨V, vn, vc, rfl⟩ := Q6 underlying22 k2
  obtain ⟨E, en, ec, rfl⟩ := Q6 underlying23 k3
  obtain ⟨F, fn, fc, rfl⟩ := Q6 underlying24 k4
  obtain ⟨lv, rfl, hbv, hrv⟩ := R4 k2 z2
  obtain ⟨le, rfl, hbe, hre⟩ := rL k3 z3
  obtain ⟨lf, rfl, hbf, hrf⟩ := rK k4 z4
  have hlt := VQ
  have t0 : s0.data.toList.length ≤ reachBytes := z0.text
  have t1 : s1.data.toList.length ≤ reachBytes := z1.text
  refine ⟨⟨s0.data.toList, s1.data.toList, lv, le, lf⟩, ⟨V, vc, E, ec, F, fc⟩, rfl, ⟨by simp only; omega, by simp only; omega, hbv, fun x hx => ?_, fun x hx => ?_⟩, ⟨hrv, hre, hrf⟩⟩
  ·obtain ⟨h1, h2, h3, h4, h5, h6, h7⟩ := hbe x hx
   constructor <;> omega
  ·obtain ⟨h1, h2, h3, h4⟩ := hbf x hx
   constructor <;> omega
end
theorem WU {l : List (String × DataW Unit)} {W : World} {n nm : String} {d : DataW Unit} {g : Nat} (hL : laidMet prog l W) (hm : (n, .iface nm d) ∈ l) (hg : prog.globalNamed n = some g) (ht : (prog.globals[g]?).map (·.type) = some 190) : ∃ t p, W.cell? ⟨g, 0, none⟩ = some (.iface t p) := by
 obtain ⟨ps, hv, _, _⟩ := hL
 obtain ⟨g', t', cs, fuel, q, e1, e2, e3, e4⟩ := MP hv hm
 obtain rfl := Option.some.inj (hg.symm.trans e1)
 obtain rfl := Option.some.inj (ht.symm.trans e2)
 obtain ⟨cs⟩ := cs
 have h0 := World.var?_cell hg e3 0
 cases fuel with
 | zero => simp [DataW.trod] at e4
 | succ fuel =>
  match cs, e4, h0 with
  | [], e4, _ => simp [DataW.trod, underlying190] at e4
  | [E], e4, h0 =>
   cases E with
   | iface u v => exact ⟨u, v, by simpa using h0⟩
   | _ => simp [DataW.trod, underlying190] at e4
  | _ :: _ :: _, e4, _ => simp [DataW.trod, underlying190] at e4
theorem nY {l : List (String × DataW Unit)} {W : World} {d1 d2 : DataW Unit} {n1 n2 : String} (hL : laidMet prog l W) (hu : Laid W utfL) (h1 : ("strconv.ErrSyntax", .iface n1 d1) ∈ l) (h2 : ("strconv.ErrRange", .iface n2 d2) ∈ l) : Lay0 W := by
 obtain ⟨t, p, e1⟩ := WU hL h1 (g := 2) (by kernel_rfl) (by kernel_rfl)
 obtain ⟨t', p', e2⟩ := WU hL h2 (g := 3) (by kernel_rfl) (by kernel_rfl)
 refine ⟨hu, ⟨⟨t, p, e1⟩, t', p', e2⟩, ?_⟩
 have b1 := World.block_lt_of_cell? W _ e1
 have b2 := World.block_lt_of_cell? W _ e2
 obtain ⟨_, _, b3⟩ := hu _ (List.mem_cons_self ..)
 obtain ⟨_, _, b4⟩ := hu _ (List.mem_cons_of_mem _ (List.mem_cons_self ..))
 have b3 := (Array.getElem?_eq_some_iff.1 b3).1
 have b4 := (Array.getElem?_eq_some_iff.1 b4).1
 simp only at b1 b2 b3 b4
 unfold nGlob
 omega
end Go.Proofs.YtadgfojhjnkliaaGreatDoor
