/- Lemmas that the last text rests on. Condition: each says its own. -/
import Derived.Test.YtdaihdknnlphkaaGreatDoorZCnIn
set_option maxHeartbeats 16000000
set_option maxRecDepth 100000
namespace Go.Proofs.YtdaihdknnlphkaaGreatDoor
open Go.ChangeShapes Go.WideShapes Go.ChangeAt Go.RowKit Go.Deep Go.Joins
open Tryz
theorem gZ : reachBytes + 1 < 4611686018427387904 := by decide
theorem KS (l : List UInt8) : (zz l).length ≤ l.length + 1 := by unfold zz; split <;> simp
theorem ZG : prog.cellsOf 39 = 11 := by kernel_rfl
theorem ZF : prog.cellsOf 41 = 4 := by kernel_rfl
theorem VG : prog.cellsOf 3 = 1 := by kernel_rfl
theorem jV : prog.cellsOf 23 = 1 := by kernel_rfl
theorem jU : prog.cellsOf 24 = 1 := by kernel_rfl
section
variable {H : Type} {enc : TypeId × Value → H} {w : World}
theorem rD {r : List Value} {d : DataW H} (h : fN enc prog w 39 r d) (hz : Sized prog 39 d) : ∃ b : El, r = b.cells ∧ (b.id.length ≤ reachBytes ∧ b.nm.length ≤ reachBytes ∧ b.inn.length ≤ reachBytes ∧ b.dflt.length ≤ reachBytes ∧ b.att.length ≤ reachBytes ∧ b.ref.length ≤ reachBytes ∧ b.key.length ≤ reachBytes) := by
 obtain ⟨fuel, p, hf⟩ := h
 obtain ⟨xs, n, _, hx, hl, hlen, hfl⟩ := DataW.trod_struct underlying39 hf
 rw [ZG] at hl
 match r, hl with
 | [c0, c1, c2, c3, c4, c5, c6, c7, c8, c9, c10], _ =>
 match xs, hlen with
 | [y0, y1, y2, y3, y4, y5, y6, y7, y8, y9, y10], _ =>
  simp only [Prod.mk.injEq] at hx
  obtain ⟨rfl, _⟩ := hx
  have k0 : DataW.trod enc prog w 0 (fun _ => true) true n 9 (List.take (prog.cellsOf 9) [c0, c1, c2, c3, c4, c5, c6, c7, c8, c9, c10]) = some y0 := hfl 0 _ rfl
  rw [DK] at k0
  obtain ⟨s0, e0, d0, _⟩ := DataW.trod_string underlying9 k0
  obtain rfl : c0 = _ := by simpa using e0
  have z0 := Sized.field (j := 0) underlying39 hz rfl rfl
  rw [d0] at z0
  have k1 : DataW.trod enc prog w 0 (fun _ => true) true n 9 (List.take (prog.cellsOf 9) [c1, c2, c3, c4, c5, c6, c7, c8, c9, c10]) = some y1 := hfl 1 _ rfl
  rw [DK] at k1
  obtain ⟨s1, e1, d1, _⟩ := DataW.trod_string underlying9 k1
  obtain rfl : c1 = _ := by simpa using e1
  have z1 := Sized.field (j := 1) underlying39 hz rfl rfl
  rw [d1] at z1
  have k2 : DataW.trod enc prog w 0 (fun _ => true) true n 5 (List.take (prog.cellsOf 5) [c2, c3, c4, c5, c6, c7, c8, c9, c10]) = some y2 := hfl 2 _ rfl
  rw [T9] at k2
  obtain ⟨a2, e2, _, w2⟩ := DataW.trod_int underlying5 k2
  obtain rfl : c2 = _ := by simpa using e2
  have k3 : DataW.trod enc prog w 0 (fun _ => true) true n 9 (List.take (prog.cellsOf 9) [c3, c4, c5, c6, c7, c8, c9, c10]) = some y3 := hfl 3 _ rfl
  rw [DK] at k3
  obtain ⟨s3, e3, d3, _⟩ := DataW.trod_string underlying9 k3
  obtain rfl : c3 = _ := by simpa using e3
  have z3 := Sized.field (j := 3) underlying39 hz rfl rfl
  rw [d3] at z3
  have k4 : DataW.trod enc prog w 0 (fun _ => true) true n 9 (List.take (prog.cellsOf 9) [c4, c5, c6, c7, c8, c9, c10]) = some y4 := hfl 4 _ rfl
  rw [DK] at k4
  obtain ⟨s4, e4, d4, _⟩ := DataW.trod_string underlying9 k4
  obtain rfl : c4 = _ := by simpa using e4
  have z4 := Sized.field (j := 4) underlying39 hz rfl rfl
  rw [d4] at z4
  have k5 : DataW.trod enc prog w 0 (fun _ => true) true n 9 (List.take (prog.cellsOf 9) [c5, c6, c7, c8, c9, c10]) = some y5 := hfl 5 _ rfl
  rw [DK] at k5
  obtain ⟨s5, e5, d5, _⟩ := DataW.trod_string underlying9 k5
  obtain rfl : c5 = _ := by simpa using e5
  have z5 := Sized.field (j := 5) underlying39 hz rfl rfl
  rw [d5] at z5
  have k6 : DataW.trod enc prog w 0 (fun _ => true) true n 5 (List.take (prog.cellsOf 5) [c6, c7, c8, c9, c10]) = some y6 := hfl 6 _ rfl
  rw [T9] at k6
  obtain ⟨a6, e6, _, w6⟩ := DataW.trod_int underlying5 k6
  obtain rfl : c6 = _ := by simpa using e6
  have k7 : DataW.trod enc prog w 0 (fun _ => true) true n 9 (List.take (prog.cellsOf 9) [c7, c8, c9, c10]) = some y7 := hfl 7 _ rfl
  rw [DK] at k7
  obtain ⟨s7, e7, d7, _⟩ := DataW.trod_string underlying9 k7
  obtain rfl : c7 = _ := by simpa using e7
  have z7 := Sized.field (j := 7) underlying39 hz rfl rfl
  rw [d7] at z7
  have k8 : DataW.trod enc prog w 0 (fun _ => true) true n 9 (List.take (prog.cellsOf 9) [c8, c9, c10]) = some y8 := hfl 8 _ rfl
  rw [DK] at k8
  obtain ⟨s8, e8, d8, _⟩ := DataW.trod_string underlying9 k8
  obtain rfl : c8 = _ := by simpa using e8
  have z8 := Sized.field (j := 8) underlying39 hz rfl rfl
  rw [d8] at z8
  have k9 : DataW.trod enc prog w 0 (fun _ => true) true n 3 (List.take (prog.cellsOf 3) [c9, c10]) = some y9 := hfl 9 _ rfl
  rw [VG] at k9
  obtain ⟨a9, e9, _⟩ := DataW.trod_int underlying3 k9
  obtain rfl : c9 = _ := by simpa using e9
  have k10 : DataW.trod enc prog w 0 (fun _ => true) true n 3 (List.take (prog.cellsOf 3) [c10]) = some y10 := hfl 10 _ rfl
  rw [VG] at k10
  obtain ⟨a10, e10, _⟩ := DataW.trod_int underlying3 k10
  obtain rfl : c10 = _ := by simpa using e10
  exact ⟨⟨s0.data.toList, s1.data.toList, UInt8.ofNat a2.toNat, s3.data.toList, s4.data.toList, s5.data.toList, UInt8.ofNat a6.toNat, s7.data.toList, s8.data.toList, a9, a10⟩, by rw [kS w2, kS w6]; rfl, z0.text, z1.text, z3.text, z4.text, z5.text, z7.text, z8.text⟩
theorem wI {A : Option Addr} {len cap fuel : Nat} {x : DataW H × List MemPlace} (h : DataW.trod enc prog w 0 (fun _ => true) true fuel 23 [.slice A len cap] = some x) (hz : Sized prog 23 x.1) :
 ∃ l : List El, l.length = len ∧ (∀ b ∈ l, b.id.length ≤ reachBytes ∧ b.nm.length ≤ reachBytes ∧ b.inn.length ≤ reachBytes ∧ b.dflt.length ≤ reachBytes ∧ b.att.length ≤ reachBytes ∧ b.ref.length ≤ reachBytes ∧ b.key.length ≤ reachBytes) ∧ Rd w A (l.length * 11) (AS El.cells l) := by
 obtain ⟨rows, D, hl, hD, _, hr, _, _, hn, hx, hd⟩ := RQ underlying23 ZG (by omega) h
 have key : ∀ r ∈ rows, ∃ b : El, r = b.cells ∧ (b.id.length ≤ reachBytes ∧ b.nm.length ≤ reachBytes ∧ b.inn.length ≤ reachBytes ∧ b.dflt.length ≤ reachBytes ∧ b.att.length ≤ reachBytes ∧ b.ref.length ≤ reachBytes ∧ b.key.length ≤ reachBytes) := by
  rcases hd with ⟨_, h0, _⟩ | ⟨sp, hs, _⟩
  ·have : rows = [] := List.eq_nil_of_length_eq_zero (by omega)
   subst this
   exact fun r hr => by (cases hr)
  ·rw [hs] at hz
   intro r hr
   obtain ⟨i, hi⟩ := List.getElem?_of_mem hr
   obtain ⟨d, hdi, hrd⟩ := hx i r hi
   exact rD hrd (hz.elem underlying23 (List.mem_of_getElem? hdi))
 obtain ⟨l, rfl, hq⟩ := OG El.cells (fun b => b.id.length ≤ reachBytes ∧ b.nm.length ≤ reachBytes ∧ b.inn.length ≤ reachBytes ∧ b.dflt.length ≤ reachBytes ∧ b.att.length ≤ reachBytes ∧ b.ref.length ≤ reachBytes ∧ b.key.length ≤ reachBytes) rows key
 rw [List.length_map] at hl
 subst hl
 exact ⟨l, rfl, hq, hr⟩
theorem rC {r : List Value} {d : DataW H} (h : fN enc prog w 41 r d) (hz : Sized prog 41 d) : ∃ b : Fl, r = b.cells ∧ (b.id.length ≤ reachBytes ∧ b.frm.length ≤ reachBytes ∧ b.tg.length ≤ reachBytes ∧ b.cond.length ≤ reachBytes) := by
 obtain ⟨fuel, p, hf⟩ := h
 obtain ⟨xs, n, _, hx, hl, hlen, hfl⟩ := DataW.trod_struct underlying41 hf
 rw [ZF] at hl
 match r, hl with
 | [c0, c1, c2, c3], _ =>
 match xs, hlen with
 | [y0, y1, y2, y3], _ =>
  simp only [Prod.mk.injEq] at hx
  obtain ⟨rfl, _⟩ := hx
  have k0 : DataW.trod enc prog w 0 (fun _ => true) true n 9 (List.take (prog.cellsOf 9) [c0, c1, c2, c3]) = some y0 := hfl 0 _ rfl
  rw [DK] at k0
  obtain ⟨s0, e0, d0, _⟩ := DataW.trod_string underlying9 k0
  obtain rfl : c0 = _ := by simpa using e0
  have z0 := Sized.field (j := 0) underlying41 hz rfl rfl
  rw [d0] at z0
  have k1 : DataW.trod enc prog w 0 (fun _ => true) true n 9 (List.take (prog.cellsOf 9) [c1, c2, c3]) = some y1 := hfl 1 _ rfl
  rw [DK] at k1
  obtain ⟨s1, e1, d1, _⟩ := DataW.trod_string underlying9 k1
  obtain rfl : c1 = _ := by simpa using e1
  have z1 := Sized.field (j := 1) underlying41 hz rfl rfl
  rw [d1] at z1
  have k2 : DataW.trod enc prog w 0 (fun _ => true) true n 9 (List.take (prog.cellsOf 9) [c2, c3]) = some y2 := hfl 2 _ rfl
  rw [DK] at k2
  obtain ⟨s2, e2, d2, _⟩ := DataW.trod_string underlying9 k2
  obtain rfl : c2 = _ := by simpa using e2
  have z2 := Sized.field (j := 2) underlying41 hz rfl rfl
  rw [d2] at z2
  have k3 : DataW.trod enc prog w 0 (fun _ => true) true n 9 (List.take (prog.cellsOf 9) [c3]) = some y3 := hfl 3 _ rfl
  rw [DK] at k3
  obtain ⟨s3, e3, d3, _⟩ := DataW.trod_string underlying9 k3
  obtain rfl : c3 = _ := by simpa using e3
  have z3 := Sized.field (j := 3) underlying41 hz rfl rfl
  rw [d3] at z3
  exact ⟨⟨s0.data.toList, s1.data.toList, s2.data.toList, s3.data.toList⟩, by rfl, z0.text, z1.text, z2.text, z3.text⟩
theorem wH {A : Option Addr} {len cap fuel : Nat} {x : DataW H × List MemPlace} (h : DataW.trod enc prog w 0 (fun _ => true) true fuel 24 [.slice A len cap] = some x) (hz : Sized prog 24 x.1) :
 ∃ l : List Fl, l.length = len ∧ (∀ b ∈ l, b.id.length ≤ reachBytes ∧ b.frm.length ≤ reachBytes ∧ b.tg.length ≤ reachBytes ∧ b.cond.length ≤ reachBytes) ∧ Rd w A (l.length * 4) (AS Fl.cells l) := by
 obtain ⟨rows, D, hl, hD, _, hr, _, _, hn, hx, hd⟩ := RQ underlying24 ZF (by omega) h
 have key : ∀ r ∈ rows, ∃ b : Fl, r = b.cells ∧ (b.id.length ≤ reachBytes ∧ b.frm.length ≤ reachBytes ∧ b.tg.length ≤ reachBytes ∧ b.cond.length ≤ reachBytes) := by
  rcases hd with ⟨_, h0, _⟩ | ⟨sp, hs, _⟩
  ·have : rows = [] := List.eq_nil_of_length_eq_zero (by omega)
   subst this
   exact fun r hr => by (cases hr)
  ·rw [hs] at hz
   intro r hr
   obtain ⟨i, hi⟩ := List.getElem?_of_mem hr
   obtain ⟨d, hdi, hrd⟩ := hx i r hi
   exact rC hrd (hz.elem underlying24 (List.mem_of_getElem? hdi))
 obtain ⟨l, rfl, hq⟩ := OG Fl.cells (fun b => b.id.length ≤ reachBytes ∧ b.frm.length ≤ reachBytes ∧ b.tg.length ≤ reachBytes ∧ b.cond.length ≤ reachBytes) rows key
 rw [List.length_map] at hl
 subst hl
 exact ⟨l, rfl, hq, hr⟩
theorem RK {t e : TypeId} {n : Nat} {c : Value} {x : DataW H × List MemPlace} (ht : prog.underlying t = some (.slice e)) (k : DataW.trod enc prog w 0 (fun _ => true) true n t [c] = some x) : ∃ A len cap, c = .slice A len cap := by
 rcases open_slice ht k with ⟨hcs, _⟩ | ⟨a, len, cap, m, n, D, Pl, hcs, _⟩
 ·exact ⟨none, 0, 0, by simpa using hcs⟩
 ·exact ⟨some a, len, cap, by simpa using hcs⟩
theorem xV {r : Reach} {b0 : Nat} {v : Value} {d : DataW H} {p : List MemPlace} (hv : Value.okWide prog w r b0 26 v) (h : DataW.Trod enc prog w 0 (fun _ => true) true 26 v d p) (hz : Sized prog 26 d) :
 ∃ (m : Md) (a : MdA), v = .agg (Md.cells m a).toArray ∧ MdStr m ∧ MdStr m.zz ∧ MdIn w m a := by
 obtain ⟨cs, rfl, hsz⟩ := okWide_struct underlying26 hv
 rw [ZE] at hsz
 obtain ⟨fuel, hf⟩ := h
 obtain ⟨xs, n, _, hx, hl, hlen, hfl⟩ := DataW.trod_struct underlying26 hf
 obtain ⟨cs⟩ := cs
 match cs, hsz with
 | [c0, c1, c2, c3, c4], _ =>
 match xs, hlen with
 | [y0, y1, y2, y3, y4], _ =>
  have k0 : DataW.trod enc prog w 0 (fun _ => true) true n 9 (List.take (prog.cellsOf 9) [c0, c1, c2, c3, c4]) = some y0 := hfl 0 _ rfl
  have k1 : DataW.trod enc prog w 0 (fun _ => true) true n 9 (List.take (prog.cellsOf 9) [c1, c2, c3, c4]) = some y1 := hfl 1 _ rfl
  have k2 : DataW.trod enc prog w 0 (fun _ => true) true n 22 (List.take (prog.cellsOf 22) [c2, c3, c4]) = some y2 := hfl 2 _ rfl
  have k3 : DataW.trod enc prog w 0 (fun _ => true) true n 23 (List.take (prog.cellsOf 23) [c3, c4]) = some y3 := hfl 3 _ rfl
  have k4 : DataW.trod enc prog w 0 (fun _ => true) true n 24 (List.take (prog.cellsOf 24) [c4]) = some y4 := hfl 4 _ rfl
  rw [DK] at k0 k1
  rw [ZH] at k2
  rw [jV] at k3
  rw [jU] at k4
  injection hx with hx1 hx2
  rw [hx1] at hz
  obtain ⟨s0, e0, d0, _⟩ := DataW.trod_string underlying9 k0
  obtain ⟨s1, e1, d1, _⟩ := DataW.trod_string underlying9 k1
  obtain rfl : c0 = _ := by simpa using e0
  obtain rfl : c1 = _ := by simpa using e1
  have z0 := Sized.field (j := 0) underlying26 hz rfl rfl
  have z1 := Sized.field (j := 1) underlying26 hz rfl rfl
  have z2 := Sized.field (j := 2) underlying26 hz rfl rfl
  have z3 := Sized.field (j := 3) underlying26 hz rfl rfl
  have z4 := Sized.field (j := 4) underlying26 hz rfl rfl
  rw [d0] at z0
  rw [d1] at z1
  obtain ⟨V, vn, vc, rfl⟩ := RK underlying22 k2
  obtain ⟨E, en, ec, rfl⟩ := RK underlying23 k3
  obtain ⟨F, fn, fc, rfl⟩ := RK underlying24 k4
  obtain ⟨lv, rfl, hbv, hrv⟩ := nM k2 z2
  obtain ⟨le, rfl, hbe, hre⟩ := wI k3 z3
  obtain ⟨lf, rfl, hbf, hrf⟩ := wH k4 z4
  have hlt := XV
  have t0 : s0.data.toList.length ≤ reachBytes := z0.text
  have t1 : s1.data.toList.length ≤ reachBytes := z1.text
  have hl2 := gZ
  have zid := KS s0.data.toList
  refine ⟨⟨s0.data.toList, s1.data.toList, lv, le, lf⟩, ⟨V, vc, E, ec, F, fc⟩, rfl, ⟨by simp only; omega, by simp only; omega, hbv, fun x hx => ?_, fun x hx => ?_⟩, ⟨by simp only; omega, by simp only; omega, hbv, fun x hx => ?_, fun x hx => ?_⟩, ⟨hrv, hre, hrf⟩⟩
  ·obtain ⟨h1, h2, h3, h4, h5, h6, h7⟩ := hbe x hx
   constructor <;> omega
  ·obtain ⟨h1, h2, h3, h4⟩ := hbf x hx
   constructor <;> omega
  ·obtain ⟨y, hy, rfl⟩ := List.mem_map.1 hx
   obtain ⟨h1, h2, h3, h4, h5, h6, h7⟩ := hbe y hy
   have := KS y.id
   have := KS y.inn
   have := KS y.dflt
   have := KS y.att
   constructor <;> (simp only; omega)
  ·obtain ⟨y, hy, rfl⟩ := List.mem_map.1 hx
   obtain ⟨h1, h2, h3, h4⟩ := hbf y hy
   have := KS y.id
   have := KS y.frm
   have := KS y.tg
   constructor <;> (simp only; omega)
end
theorem Z5 {l : List (String × DataW Unit)} {W : World} {n nm : String} {d : DataW Unit} {g : Nat} (hL : laidMet prog l W) (hm : (n, .iface nm d) ∈ l) (hg : prog.globalNamed n = some g) (ht : (prog.globals[g]?).map (·.type) = some 193) : ∃ t p, W.cell? ⟨g, 0, none⟩ = some (.iface t p) := by
 obtain ⟨ps, hv, _, _⟩ := hL
 obtain ⟨g', t', cs, fuel, q, e1, e2, e3, e4⟩ := NY hv hm
 obtain rfl := Option.some.inj (hg.symm.trans e1)
 obtain rfl := Option.some.inj (ht.symm.trans e2)
 obtain ⟨cs⟩ := cs
 have h0 := World.var?_cell hg e3 0
 cases fuel with
 | zero => simp [DataW.trod] at e4
 | succ fuel =>
  match cs, e4, h0 with
  | [], e4, _ => simp [DataW.trod, underlying193] at e4
  | [E], e4, h0 =>
   cases E with
   | iface u v => exact ⟨u, v, by simpa using h0⟩
   | _ => simp [DataW.trod, underlying193] at e4
  | _ :: _ :: _, e4, _ => simp [DataW.trod, underlying193] at e4
theorem sF {l : List (String × DataW Unit)} {W : World} {d1 d2 : DataW Unit} {n1 n2 : String} (hL : laidMet prog l W) (hu : Laid W utfL) (h1 : ("strconv.ErrSyntax", .iface n1 d1) ∈ l) (h2 : ("strconv.ErrRange", .iface n2 d2) ∈ l) : Lay0 W := by
 obtain ⟨t, p, e1⟩ := Z5 hL h1 (g := 2) (by kernel_rfl) (by kernel_rfl)
 obtain ⟨t', p', e2⟩ := Z5 hL h2 (g := 3) (by kernel_rfl) (by kernel_rfl)
 refine ⟨hu, ⟨⟨t, p, e1⟩, t', p', e2⟩, ?_⟩
 have b1 := World.block_lt_of_cell? W _ e1
 have b2 := World.block_lt_of_cell? W _ e2
 obtain ⟨_, _, b3⟩ := hu _ (List.mem_cons_self ..)
 obtain ⟨_, _, b4⟩ := hu _ (List.mem_cons_of_mem _ (List.mem_cons_self ..))
 have b3 := (Array.getElem?_eq_some_iff.1 b3).1
 have b4 := (Array.getElem?_eq_some_iff.1 b4).1
 simp only at b1 b2 b3 b4
 unfold nGlob
 omega
end Go.Proofs.YtdaihdknnlphkaaGreatDoor
