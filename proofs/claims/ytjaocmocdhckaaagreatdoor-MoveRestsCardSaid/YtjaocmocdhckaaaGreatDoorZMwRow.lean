/- Lemmas that the last text rests on. Condition: each says its own. -/
import Derived.Test.YtjaocmocdhckaaaGreatDoorZMw12
import Derived.SizedLaws
import Derived.Lib.SmallJoins
import Derived.ChangeArms
set_option maxHeartbeats 16000000
set_option maxRecDepth 100000
namespace Go.Proofs.YtjaocmocdhckaaaGreatDoor
open Go.ChangeShapes Go.WideShapes Go.ChangeAt Go.RowKit Go.Deep Go.Joins
open Tryz
section
def Sized {H : Type} (P : Program) (t : TypeId) (d : DataW H) : Prop := ∀ n ∈ d.weights P t, n ≤ reachBytes
theorem L6 {H : Type} {P : Program} {e : TypeId} : ∀ {ds : List (DataW H)} {d : DataW H}, d ∈ ds → ∀ n ∈ d.weights P e, n ∈ DataW.weightsAll P e ds
 | d0 :: ds, d, hd, n, hn => by
  simp only [DataW.weightsAll, List.mem_append]
  rcases List.mem_cons.1 hd with rfl | hd
  ·exact .inl hn
  ·exact .inr (L6 hd n hn)
section
variable {H : Type} {P : Program} {t e : TypeId}
theorem Sized.of {ts : List TypeId} {ds : List (DataW H)} (h : (DataW.weightsEach P ts ds).all (· ≤ reachBytes) = true) {j : Nat} {t : TypeId} {d : DataW H} (ht : ts[j]? = some t) (hd : ds[j]? = some d) : Sized P t d := fun n hn => by
 have := List.all_eq_true.1 h _ (DataW.weights_mem_each ht hd n hn)
 simpa using this
theorem Sized.elem {D sp : List (DataW H)} {d : DataW H} (ht : P.underlying t = some (.slice e)) (h : Sized P t (.slice D sp)) (hd : d ∈ D) : Sized P e d := fun n hn => h n (by
 simp only [DataW.weights, ht, List.mem_cons, List.mem_append]
 exact .inr (.inl (L6 hd n hn)))
theorem Sized.len {D sp : List (DataW H)} (ht : P.underlying t = some (.slice e)) (hb : 0 < P.bytesOf e) (h : Sized P t (.slice D sp)) : D.length ≤ reachBytes := by
 have := h ((D.length + sp.length) * P.bytesOf e) (by simp [DataW.weights, ht])
 exact Nat.le_trans (Nat.le_trans (Nat.le_add_right _ _) (Nat.le_mul_of_pos_right _ hb)) this
theorem Sized.field {fs : Array Field} {D : List (DataW H)} {j : Nat} {f : Field} {d : DataW H} (ht : P.underlying t = some (.struct fs)) (h : Sized P t (.agg D)) (hf : fs[j]? = some f) (hd : D[j]? = some d) : Sized P f.type d := fun n hn => h n (by
 simp only [DataW.weights, ht]
 exact DataW.weights_mem_each (j := j) (by rw [List.getElem?_map, Array.getElem?_toList, hf]; rfl) hd n hn)
theorem Sized.text {l : List UInt8} (h : Sized (H := H) P t (.lit (.string l))) : l.length ≤ reachBytes := h _ (by simp only [DataW.weights]; exact List.mem_singleton.2 rfl)
end
theorem RH : reachBytes < 4611686018427387904 := by decide
theorem MM {α β : Type} (f : β → α) (Q : β → Prop) : ∀ (rows : List α), (∀ r ∈ rows, ∃ p, r = f p ∧ Q p) → ∃ l : List β, rows = l.map f ∧ ∀ x ∈ l, Q x
 | [], _ => ⟨[], rfl, fun _ h => by cases h⟩
 | r :: rows, h => by
  obtain ⟨p, hp, hq⟩ := h r (by simp)
  obtain ⟨l, hl, hl'⟩ := MM f Q rows (fun r hr => h r (by simp [hr]))
  exact ⟨p :: l, by rw [hp, hl]; rfl, fun x hx => by
   rcases List.mem_cons.1 hx with rfl | hx
   ·exact hq
   ·exact hl' x hx⟩
theorem SF : prog.cellsOf 47 = 5 := by kernel_rfl
theorem QA : prog.cellsOf 45 = 4 := by kernel_rfl
theorem XJ : prog.cellsOf 26 = 5 := by kernel_rfl
theorem DZ : prog.cellsOf 9 = 1 := by kernel_rfl
theorem P6 : prog.cellsOf 5 = 1 := by kernel_rfl
theorem YV : prog.cellsOf 4 = 1 := by kernel_rfl
theorem dM : prog.cellsOf 2 = 1 := by kernel_rfl
theorem YW : 0 < prog.bytesOf 47 := by rw [show prog.bytesOf 47 = 56 by kernel_rfl]; decide
theorem QB : prog.cellsOf 22 = 1 := by kernel_rfl
section
variable {H : Type} {enc : TypeId × Value → H} {w : World}
theorem Y8 {r : List Value} {n : Nat} {x : DataW H × List MemPlace} (h : DataW.trod enc prog w 0 (fun _ => true) true n 45 r = some x) (hz : Sized prog 45 x.1) : ∃ v : Vl, r = v.cells ∧ v.text.length ≤ reachBytes := by
 obtain ⟨y0, y1, y2, y3, m, rfl, hl, h0, h1, h2, h3⟩ := trod_struct4 underlying45 h
 rw [QA] at hl
 simp only [P6, YV, dM, DZ] at h0 h1 h2 h3
 obtain ⟨a, ha, _, wa⟩ := DataW.trod_int underlying5 h0
 obtain ⟨b, hb, _⟩ := DataW.trod_int underlying2 h1
 obtain ⟨c, hc, _⟩ := DataW.trod_bool underlying4 h2
 obtain ⟨s, hs, hd, _⟩ := DataW.trod_string underlying9 h3
 have hz3 := Sized.field (j := 3) underlying45 hz rfl rfl
 rw [hd] at hz3
 match r, hl with
 | [r0, r1, r2, r3], _ =>
  obtain rfl : r0 = _ := by simpa using ha
  obtain rfl : r1 = _ := by simpa using hb
  obtain rfl : r2 = _ := by simpa using hc
  obtain rfl : r3 = _ := by simpa using hs
  exact ⟨⟨UInt8.ofNat a.toNat, b, c, s.data.toList⟩, by rw [VS wa]; rfl, hz3.text⟩
theorem bU {r : List Value} {d : DataW H} (h : XR enc prog w 47 r d) (hz : Sized prog 47 d) : ∃ b : Bd, r = b.cells ∧ b.name.length ≤ reachBytes ∧ b.v.text.length ≤ reachBytes := by
 obtain ⟨n, p, h⟩ := h
 obtain ⟨y0, y1, m, hx, hl, h0, h1⟩ := trod_struct2 underlying47 h
 rw [SF] at hl
 simp only [Prod.mk.injEq] at hx
 obtain ⟨rfl, _⟩ := hx
 simp only [QA, DZ] at h0 h1
 obtain ⟨s, hs, hd, _⟩ := DataW.trod_string underlying9 h0
 have hz0 := Sized.field (j := 0) underlying47 hz rfl rfl
 have hz1 := Sized.field (j := 1) underlying47 hz rfl rfl
 rw [hd] at hz0
 obtain ⟨v, hv, hvt⟩ := Y8 h1 hz1
 match r, hl with
 | r0 :: r', hl =>
  obtain rfl : r0 = _ := by simpa using hs
  have hl' : r'.length = 4 := by simpa using hl
  have e : r' = v.cells := by
   have e1 : (r'.take 4) = v.cells := hv
   rw [List.take_of_length_le AM] at e1
   exact e1
  exact ⟨⟨s.data.toList, v⟩, by rw [e]; rfl, hz0.text, hvt⟩
theorem WP {A : Option Addr} {len cap fuel : Nat} {x : DataW H × List MemPlace} (h : DataW.trod enc prog w 0 (fun _ => true) true fuel 22 [.slice A len cap] = some x) (hz : Sized prog 22 x.1) :
 ∃ l : List Bd, l.length = len ∧ BdOk l ∧ Rd w A (l.length * 5) (rY l) := by
 obtain ⟨rows, D, hl, hD, _, hr, _, _, hn, hx, hd⟩ := OJ underlying22 SF AM h
 have key : (∀ r ∈ rows, ∃ b : Bd, r = b.cells ∧ (b.name.length ≤ reachBytes ∧ b.v.text.length ≤ reachBytes)) ∧ len ≤ reachBytes := by
  rcases hd with ⟨_, h0, _⟩ | ⟨sp, hs, _⟩
  ·have : rows = [] := List.eq_nil_of_length_eq_zero AM
   subst this
   exact ⟨fun r hr => by (cases hr), by omega⟩
  ·rw [hs] at hz
   refine ⟨fun r hr => ?_, by rw [← hD]; exact hz.len underlying22 YW⟩
   obtain ⟨i, hi⟩ := List.getElem?_of_mem hr
   obtain ⟨d, hdi, hrd⟩ := hx i r hi
   exact bU hrd (hz.elem underlying22 (List.mem_of_getElem? hdi))
 obtain ⟨l, rfl, hq⟩ := MM Bd.cells (fun b => b.name.length ≤ reachBytes ∧ b.v.text.length ≤ reachBytes) rows key.1
 rw [List.length_map] at hl
 subst hl
 have hlt := RH
 have hlen := key.2
 exact ⟨l, rfl, ⟨by omega, fun x hx => by have := (hq x hx).1; omega, fun x hx => by have := (hq x hx).2; omega⟩, hr⟩
end
end
section
theorem XL : prog.cellsOf 69 = 11 := by kernel_rfl
theorem XK : prog.cellsOf 72 = 4 := by kernel_rfl
theorem XI : prog.cellsOf 43 = 9 := by kernel_rfl
theorem YU : prog.cellsOf 29 = 5 := by kernel_rfl
theorem YT : prog.cellsOf 27 = 1 := by kernel_rfl
theorem kP : prog.cellsOf 5 = 1 := by kernel_rfl
theorem I7 : prog.cellsOf 3 = 1 := by kernel_rfl
theorem dO : prog.cellsOf 33 = 1 := by kernel_rfl
theorem dP : prog.cellsOf 23 = 1 := by kernel_rfl
theorem dN : prog.cellsOf 24 = 1 := by kernel_rfl
section
variable {H : Type} {enc : TypeId × Value → H} {w : World}
theorem mL {r : List Value} {d : DataW H} (h : XR enc prog w 69 r d) (hz : Sized prog 69 d) : ∃ b : El, r = b.cells ∧ (b.id.length ≤ reachBytes ∧ b.nm.length ≤ reachBytes ∧ b.inn.length ≤ reachBytes ∧ b.dflt.length ≤ reachBytes ∧ b.att.length ≤ reachBytes ∧ b.ref.length ≤ reachBytes ∧ b.key.length ≤ reachBytes) := by
 obtain ⟨fuel, p, hf⟩ := h
 obtain ⟨xs, n, _, hx, hl, hlen, hfl⟩ := DataW.trod_struct underlying69 hf
 rw [XL] at hl
 match r, hl with
 | [c0, c1, c2, c3, c4, c5, c6, c7, c8, c9, c10], _ =>
 match xs, hlen with
 | [y0, y1, y2, y3, y4, y5, y6, y7, y8, y9, y10], _ =>
  simp only [Prod.mk.injEq] at hx
  obtain ⟨rfl, _⟩ := hx
  have k0 : DataW.trod enc prog w 0 (fun _ => true) true n 9 (List.take (prog.cellsOf 9) [c0, c1, c2, c3, c4, c5, c6, c7, c8, c9, c10]) = some y0 := hfl 0 _ rfl
  rw [DZ] at k0
  obtain ⟨s0, e0, d0, _⟩ := DataW.trod_string underlying9 k0
  obtain rfl : c0 = _ := by simpa using e0
  have z0 := Sized.field (j := 0) underlying69 hz rfl rfl
  rw [d0] at z0
  have k1 : DataW.trod enc prog w 0 (fun _ => true) true n 9 (List.take (prog.cellsOf 9) [c1, c2, c3, c4, c5, c6, c7, c8, c9, c10]) = some y1 := hfl 1 _ rfl
  rw [DZ] at k1
  obtain ⟨s1, e1, d1, _⟩ := DataW.trod_string underlying9 k1
  obtain rfl : c1 = _ := by simpa using e1
  have z1 := Sized.field (j := 1) underlying69 hz rfl rfl
  rw [d1] at z1
  have k2 : DataW.trod enc prog w 0 (fun _ => true) true n 5 (List.take (prog.cellsOf 5) [c2, c3, c4, c5, c6, c7, c8, c9, c10]) = some y2 := hfl 2 _ rfl
  rw [P6] at k2
  obtain ⟨a2, e2, _, w2⟩ := DataW.trod_int underlying5 k2
  obtain rfl : c2 = _ := by simpa using e2
  have k3 : DataW.trod enc prog w 0 (fun _ => true) true n 9 (List.take (prog.cellsOf 9) [c3, c4, c5, c6, c7, c8, c9, c10]) = some y3 := hfl 3 _ rfl
  rw [DZ] at k3
  obtain ⟨s3, e3, d3, _⟩ := DataW.trod_string underlying9 k3
  obtain rfl : c3 = _ := by simpa using e3
  have z3 := Sized.field (j := 3) underlying69 hz rfl rfl
  rw [d3] at z3
  have k4 : DataW.trod enc prog w 0 (fun _ => true) true n 9 (List.take (prog.cellsOf 9) [c4, c5, c6, c7, c8, c9, c10]) = some y4 := hfl 4 _ rfl
  rw [DZ] at k4
  obtain ⟨s4, e4, d4, _⟩ := DataW.trod_string underlying9 k4
  obtain rfl : c4 = _ := by simpa using e4
  have z4 := Sized.field (j := 4) underlying69 hz rfl rfl
  rw [d4] at z4
  have k5 : DataW.trod enc prog w 0 (fun _ => true) true n 9 (List.take (prog.cellsOf 9) [c5, c6, c7, c8, c9, c10]) = some y5 := hfl 5 _ rfl
  rw [DZ] at k5
  obtain ⟨s5, e5, d5, _⟩ := DataW.trod_string underlying9 k5
  obtain rfl : c5 = _ := by simpa using e5
  have z5 := Sized.field (j := 5) underlying69 hz rfl rfl
  rw [d5] at z5
  have k6 : DataW.trod enc prog w 0 (fun _ => true) true n 5 (List.take (prog.cellsOf 5) [c6, c7, c8, c9, c10]) = some y6 := hfl 6 _ rfl
  rw [P6] at k6
  obtain ⟨a6, e6, _, w6⟩ := DataW.trod_int underlying5 k6
  obtain rfl : c6 = _ := by simpa using e6
  have k7 : DataW.trod enc prog w 0 (fun _ => true) true n 9 (List.take (prog.cellsOf 9) [c7, c8, c9, c10]) = some y7 := hfl 7 _ rfl
  rw [DZ] at k7
  obtain ⟨s7, e7, d7, _⟩ := DataW.trod_string underlying9 k7
  obtain rfl : c7 = _ := by simpa using e7
  have z7 := Sized.field (j := 7) underlying69 hz rfl rfl
  rw [d7] at z7
  have k8 : DataW.trod enc prog w 0 (fun _ => true) true n 9 (List.take (prog.cellsOf 9) [c8, c9, c10]) = some y8 := hfl 8 _ rfl
  rw [DZ] at k8
  obtain ⟨s8, e8, d8, _⟩ := DataW.trod_string underlying9 k8
  obtain rfl : c8 = _ := by simpa using e8
  have z8 := Sized.field (j := 8) underlying69 hz rfl rfl
  rw [d8] at z8
  have k9 : DataW.trod enc prog w 0 (fun _ => true) true n 3 (List.take (prog.cellsOf 3) [c9, c10]) = some y9 := hfl 9 _ rfl
  rw [I7] at k9
  obtain ⟨a9, e9, _⟩ := DataW.trod_int underlying3 k9
  obtain rfl : c9 = _ := by simpa using e9
  have k10 : DataW.trod enc prog w 0 (fun _ => true) true n 3 (List.take (prog.cellsOf 3) [c10]) = some y10 := hfl 10 _ rfl
  rw [I7] at k10
  obtain ⟨a10, e10, _⟩ := DataW.trod_int underlying3 k10
  obtain rfl : c10 = _ := by simpa using e10
  exact ⟨⟨s0.data.toList, s1.data.toList, UInt8.ofNat a2.toNat, s3.data.toList, s4.data.toList, s5.data.toList, UInt8.ofNat a6.toNat, s7.data.toList, s8.data.toList, a9, a10⟩, by rw [VS w2, VS w6]; rfl, z0.text, z1.text, z3.text, z4.text, z5.text, z7.text, z8.text⟩
theorem qP {A : Option Addr} {len cap fuel : Nat} {x : DataW H × List MemPlace} (h : DataW.trod enc prog w 0 (fun _ => true) true fuel 23 [.slice A len cap] = some x) (hz : Sized prog 23 x.1) :
 ∃ l : List El, l.length = len ∧ (∀ b ∈ l, b.id.length ≤ reachBytes ∧ b.nm.length ≤ reachBytes ∧ b.inn.length ≤ reachBytes ∧ b.dflt.length ≤ reachBytes ∧ b.att.length ≤ reachBytes ∧ b.ref.length ≤ reachBytes ∧ b.key.length ≤ reachBytes) ∧ Rd w A (l.length * 11) (AH El.cells l) := by
 obtain ⟨rows, D, hl, hD, _, hr, _, _, hn, hx, hd⟩ := OJ underlying23 XL AM h
 have key : ∀ r ∈ rows, ∃ b : El, r = b.cells ∧ (b.id.length ≤ reachBytes ∧ b.nm.length ≤ reachBytes ∧ b.inn.length ≤ reachBytes ∧ b.dflt.length ≤ reachBytes ∧ b.att.length ≤ reachBytes ∧ b.ref.length ≤ reachBytes ∧ b.key.length ≤ reachBytes) := by
  rcases hd with ⟨_, h0, _⟩ | ⟨sp, hs, _⟩
  ·have : rows = [] := List.eq_nil_of_length_eq_zero AM
   subst this
   exact fun r hr => by (cases hr)
  ·rw [hs] at hz
   intro r hr
   obtain ⟨i, hi⟩ := List.getElem?_of_mem hr
   obtain ⟨d, hdi, hrd⟩ := hx i r hi
   exact mL hrd (hz.elem underlying23 (List.mem_of_getElem? hdi))
 obtain ⟨l, rfl, hq⟩ := MM El.cells (fun b => b.id.length ≤ reachBytes ∧ b.nm.length ≤ reachBytes ∧ b.inn.length ≤ reachBytes ∧ b.dflt.length ≤ reachBytes ∧ b.att.length ≤ reachBytes ∧ b.ref.length ≤ reachBytes ∧ b.key.length ≤ reachBytes) rows key
 rw [List.length_map] at hl
 subst hl
 exact ⟨l, rfl, hq, hr⟩
theorem mK {r : List Value} {d : DataW H} (h : XR enc prog w 72 r d) (hz : Sized prog 72 d) : ∃ b : Fl, r = b.cells ∧ (b.id.length ≤ reachBytes ∧ b.frm.length ≤ reachBytes ∧ b.tg.length ≤ reachBytes ∧ b.cond.length ≤ reachBytes) := by
 obtain ⟨fuel, p, hf⟩ := h
 obtain ⟨xs, n, _, hx, hl, hlen, hfl⟩ := DataW.trod_struct underlying72 hf
 rw [XK] at hl
 match r, hl with
 | [c0, c1, c2, c3], _ =>
 match xs, hlen with
 | [y0, y1, y2, y3], _ =>
  simp only [Prod.mk.injEq] at hx
  obtain ⟨rfl, _⟩ := hx
  have k0 : DataW.trod enc prog w 0 (fun _ => true) true n 9 (List.take (prog.cellsOf 9) [c0, c1, c2, c3]) = some y0 := hfl 0 _ rfl
  rw [DZ] at k0
  obtain ⟨s0, e0, d0, _⟩ := DataW.trod_string underlying9 k0
  obtain rfl : c0 = _ := by simpa using e0
  have z0 := Sized.field (j := 0) underlying72 hz rfl rfl
  rw [d0] at z0
  have k1 : DataW.trod enc prog w 0 (fun _ => true) true n 9 (List.take (prog.cellsOf 9) [c1, c2, c3]) = some y1 := hfl 1 _ rfl
  rw [DZ] at k1
  obtain ⟨s1, e1, d1, _⟩ := DataW.trod_string underlying9 k1
  obtain rfl : c1 = _ := by simpa using e1
  have z1 := Sized.field (j := 1) underlying72 hz rfl rfl
  rw [d1] at z1
  have k2 : DataW.trod enc prog w 0 (fun _ => true) true n 9 (List.take (prog.cellsOf 9) [c2, c3]) = some y2 := hfl 2 _ rfl
  rw [DZ] at k2
  obtain ⟨s2, e2, d2, _⟩ := DataW.trod_string underlying9 k2
  obtain rfl : c2 = _ := by simpa using e2
  have z2 := Sized.field (j := 2) underlying72 hz rfl rfl
  rw [d2] at z2
  have k3 : DataW.trod enc prog w 0 (fun _ => true) true n 9 (List.take (prog.cellsOf 9) [c3]) = some y3 := hfl 3 _ rfl
  rw [DZ] at k3
  obtain ⟨s3, e3, d3, _⟩ := DataW.trod_string underlying9 k3
  obtain rfl : c3 = _ := by simpa using e3
  have z3 := Sized.field (j := 3) underlying72 hz rfl rfl
  rw [d3] at z3
  exact ⟨⟨s0.data.toList, s1.data.toList, s2.data.toList, s3.data.toList⟩, by rfl, z0.text, z1.text, z2.text, z3.text⟩
theorem qO {A : Option Addr} {len cap fuel : Nat} {x : DataW H × List MemPlace} (h : DataW.trod enc prog w 0 (fun _ => true) true fuel 24 [.slice A len cap] = some x) (hz : Sized prog 24 x.1) :
 ∃ l : List Fl, l.length = len ∧ (∀ b ∈ l, b.id.length ≤ reachBytes ∧ b.frm.length ≤ reachBytes ∧ b.tg.length ≤ reachBytes ∧ b.cond.length ≤ reachBytes) ∧ Rd w A (l.length * 4) (AH Fl.cells l) := by
 obtain ⟨rows, D, hl, hD, _, hr, _, _, hn, hx, hd⟩ := OJ underlying24 XK AM h
 have key : ∀ r ∈ rows, ∃ b : Fl, r = b.cells ∧ (b.id.length ≤ reachBytes ∧ b.frm.length ≤ reachBytes ∧ b.tg.length ≤ reachBytes ∧ b.cond.length ≤ reachBytes) := by
  rcases hd with ⟨_, h0, _⟩ | ⟨sp, hs, _⟩
  ·have : rows = [] := List.eq_nil_of_length_eq_zero AM
   subst this
   exact fun r hr => by (cases hr)
  ·rw [hs] at hz
   intro r hr
   obtain ⟨i, hi⟩ := List.getElem?_of_mem hr
   obtain ⟨d, hdi, hrd⟩ := hx i r hi
   exact mK hrd (hz.elem underlying24 (List.mem_of_getElem? hdi))
 obtain ⟨l, rfl, hq⟩ := MM Fl.cells (fun b => b.id.length ≤ reachBytes ∧ b.frm.length ≤ reachBytes ∧ b.tg.length ≤ reachBytes ∧ b.cond.length ≤ reachBytes) rows key
 rw [List.length_map] at hl
 subst hl
 exact ⟨l, rfl, hq, hr⟩
theorem mJ {r : List Value} {d : DataW H} (h : XR enc prog w 43 r d) (hz : Sized prog 43 d) : ∃ b : Tk, r = b.cells ∧ (b.loc.length ≤ reachBytes ∧ b.on.length ≤ reachBytes ∧ b.worker.length ≤ reachBytes) := by
 obtain ⟨fuel, p, hf⟩ := h
 obtain ⟨xs, n, _, hx, hl, hlen, hfl⟩ := DataW.trod_struct underlying43 hf
 rw [XI] at hl
 match r, hl with
 | [c0, c1, c2, c3, c4, c5, c6, c7, c8], _ =>
 match xs, hlen with
 | [y0, y1, y2, y3, y4, y5, y6, y7, y8], _ =>
  simp only [Prod.mk.injEq] at hx
  obtain ⟨rfl, _⟩ := hx
  have k0 : DataW.trod enc prog w 0 (fun _ => true) true n 3 (List.take (prog.cellsOf 3) [c0, c1, c2, c3, c4, c5, c6, c7, c8]) = some y0 := hfl 0 _ rfl
  rw [I7] at k0
  obtain ⟨a0, e0, _⟩ := DataW.trod_int underlying3 k0
  obtain rfl : c0 = _ := by simpa using e0
  have k1 : DataW.trod enc prog w 0 (fun _ => true) true n 9 (List.take (prog.cellsOf 9) [c1, c2, c3, c4, c5, c6, c7, c8]) = some y1 := hfl 1 _ rfl
  rw [DZ] at k1
  obtain ⟨s1, e1, d1, _⟩ := DataW.trod_string underlying9 k1
  obtain rfl : c1 = _ := by simpa using e1
  have z1 := Sized.field (j := 1) underlying43 hz rfl rfl
  rw [d1] at z1
  have k2 : DataW.trod enc prog w 0 (fun _ => true) true n 9 (List.take (prog.cellsOf 9) [c2, c3, c4, c5, c6, c7, c8]) = some y2 := hfl 2 _ rfl
  rw [DZ] at k2
  obtain ⟨s2, e2, d2, _⟩ := DataW.trod_string underlying9 k2
  obtain rfl : c2 = _ := by simpa using e2
  have z2 := Sized.field (j := 2) underlying43 hz rfl rfl
  rw [d2] at z2
  have k3 : DataW.trod enc prog w 0 (fun _ => true) true n 3 (List.take (prog.cellsOf 3) [c3, c4, c5, c6, c7, c8]) = some y3 := hfl 3 _ rfl
  rw [I7] at k3
  obtain ⟨a3, e3, _⟩ := DataW.trod_int underlying3 k3
  obtain rfl : c3 = _ := by simpa using e3
  have k4 : DataW.trod enc prog w 0 (fun _ => true) true n 3 (List.take (prog.cellsOf 3) [c4, c5, c6, c7, c8]) = some y4 := hfl 4 _ rfl
  rw [I7] at k4
  obtain ⟨a4, e4, _⟩ := DataW.trod_int underlying3 k4
  obtain rfl : c4 = _ := by simpa using e4
  have k5 : DataW.trod enc prog w 0 (fun _ => true) true n 9 (List.take (prog.cellsOf 9) [c5, c6, c7, c8]) = some y5 := hfl 5 _ rfl
  rw [DZ] at k5
  obtain ⟨s5, e5, d5, _⟩ := DataW.trod_string underlying9 k5
  obtain rfl : c5 = _ := by simpa using e5
  have z5 := Sized.field (j := 5) underlying43 hz rfl rfl
  rw [d5] at z5
  have k6 : DataW.trod enc prog w 0 (fun _ => true) true n 3 (List.take (prog.cellsOf 3) [c6, c7, c8]) = some y6 := hfl 6 _ rfl
  rw [I7] at k6
  obtain ⟨a6, e6, _⟩ := DataW.trod_int underlying3 k6
  obtain rfl : c6 = _ := by simpa using e6
  have k7 : DataW.trod enc prog w 0 (fun _ => true) true n 5 (List.take (prog.cellsOf 5) [c7, c8]) = some y7 := hfl 7 _ rfl
  rw [P6] at k7
  obtain ⟨a7, e7, _, w7⟩ := DataW.trod_int underlying5 k7
  obtain rfl : c7 = _ := by simpa using e7
  have k8 : DataW.trod enc prog w 0 (fun _ => true) true n 33 (List.take (prog.cellsOf 33) [c8]) = some y8 := hfl 8 _ rfl
  rw [dO] at k8
  obtain ⟨a8, e8, _⟩ := DataW.trod_int underlying33 k8
  obtain rfl : c8 = _ := by simpa using e8
  exact ⟨⟨a0, s1.data.toList, s2.data.toList, a3, a4, s5.data.toList, a6, UInt8.ofNat a7.toNat, a8⟩, by rw [VS w7]; rfl, z1.text, z2.text, z5.text⟩
theorem nQ {A : Option Addr} {len cap fuel : Nat} {x : DataW H × List MemPlace} (h : DataW.trod enc prog w 0 (fun _ => true) true fuel 27 [.slice A len cap] = some x) (hz : Sized prog 27 x.1) :
 ∃ l : List Tk, l.length = len ∧ (∀ b ∈ l, b.loc.length ≤ reachBytes ∧ b.on.length ≤ reachBytes ∧ b.worker.length ≤ reachBytes) ∧ Rd w A (l.length * 9) (AH Tk.cells l) := by
 obtain ⟨rows, D, hl, hD, _, hr, _, _, hn, hx, hd⟩ := OJ underlying27 XI AM h
 have key : ∀ r ∈ rows, ∃ b : Tk, r = b.cells ∧ (b.loc.length ≤ reachBytes ∧ b.on.length ≤ reachBytes ∧ b.worker.length ≤ reachBytes) := by
  rcases hd with ⟨_, h0, _⟩ | ⟨sp, hs, _⟩
  ·have : rows = [] := List.eq_nil_of_length_eq_zero AM
   subst this
   exact fun r hr => by (cases hr)
  ·rw [hs] at hz
   intro r hr
   obtain ⟨i, hi⟩ := List.getElem?_of_mem hr
   obtain ⟨d, hdi, hrd⟩ := hx i r hi
   exact mJ hrd (hz.elem underlying27 (List.mem_of_getElem? hdi))
 obtain ⟨l, rfl, hq⟩ := MM Tk.cells (fun b => b.loc.length ≤ reachBytes ∧ b.on.length ≤ reachBytes ∧ b.worker.length ≤ reachBytes) rows key
 rw [List.length_map] at hl
 subst hl
 exact ⟨l, rfl, hq, hr⟩
theorem LV {t e : TypeId} {n : Nat} {c : Value} {x : DataW H × List MemPlace} (ht : prog.underlying t = some (.slice e)) (k : DataW.trod enc prog w 0 (fun _ => true) true n t [c] = some x) : ∃ A len cap, c = .slice A len cap := by
 rcases open_slice ht k with ⟨hcs, _⟩ | ⟨a, len, cap, m, n, D, Pl, hcs, _⟩
 ·exact ⟨none, 0, 0, by simpa using hcs⟩
 ·exact ⟨some a, len, cap, by simpa using hcs⟩
theorem rT {r : Reach} {b0 : Nat} {v : Value} {d : DataW H} {p : List MemPlace} (hv : Value.okWide prog w r b0 26 v) (h : DataW.Trod enc prog w 0 (fun _ => true) true 26 v d p) (hz : Sized prog 26 d) :
 ∃ (m : Md) (a : MdA), v = .agg (Md.cells m a).toArray ∧ MdStr m ∧ MdIn w m a := by
 obtain ⟨cs, rfl, hsz⟩ := okWide_struct underlying26 hv
 rw [XJ] at hsz
 obtain ⟨fuel, hf⟩ := h
 obtain ⟨xs, n, _, hx, hl, hlen, hfl⟩ := DataW.trod_struct underlying26 hf
 obtain ⟨cs⟩ := cs
 match cs, hsz with
 | [c0, c1, c2, c3, c4], _ =>
 match xs, hlen with
 | [y0, y1, y2, y3, y4], _ =>
  have k0 : DataW.trod enc prog w 0 (fun _ => true) true n 9 (List.take (prog.cellsOf 9) [c0, c1, c2, c3, c4]) = some y0 := hfl 0 _ rfl
  have k1 : DataW.trod enc prog w 0 (fun _ => true) true n 9 (List.take (prog.cellsOf 9) [c1, c2, c3, c4]) = some y1 := hfl 1 _ rfl
  have k2 : DataW.trod enc prog w 0 (fun _ => true) true n 22 (List.take (prog.cellsOf 22) [c2, c3, c4]) = some y2 := hfl 2 _ rfl
  have k3 : DataW.trod enc prog w 0 (fun _ => true) true n 23 (List.take (prog.cellsOf 23) [c3, c4]) = some y3 := hfl 3 _ rfl
  have k4 : DataW.trod enc prog w 0 (fun _ => true) true n 24 (List.take (prog.cellsOf 24) [c4]) = some y4 := hfl 4 _ rfl
  rw [DZ] at k0 k1
  rw [QB] at k2
  rw [dP] at k3
  rw [dN] at k4
  injection hx with hx1 hx2
  rw [hx1] at hz
  obtain ⟨s0, e0, d0, _⟩ := DataW.trod_string underlying9 k0
  obtain ⟨s1, e1, d1, _⟩ := DataW.trod_string underlying9 k1
  obtain rfl : c0 = _ := by simpa using e0
  obtain rfl : c1 = _ := by simpa using e1
  have z0 := Sized.field (j := 0) underlying26 hz rfl rfl
  have z1 := Sized.field (j := 1) underlying26 hz rfl rfl
  have z2 := Sized.field (j := 2) underlying26 hz rfl rfl
  have z3 := Sized.field (j := 3) underlying26 hz rfl rfl
  have z4 := Sized.field (j := 4) underlying26 hz rfl rfl
  rw [d0] at z0
  rw [d1] at z1
  obtain ⟨V, vn, vc, rfl⟩ := LV underlying22 k2
  obtain ⟨E, en, ec, rfl⟩ := LV underlying23 k3
  obtain ⟨F, fn, fc, rfl⟩ := LV underlying24 k4
  obtain ⟨lv, rfl, hbv, hrv⟩ := WP k2 z2
  obtain ⟨le, rfl, hbe, hre⟩ := qP k3 z3
  obtain ⟨lf, rfl, hbf, hrf⟩ := qO k4 z4
  have hlt := RH
  have t0 : s0.data.toList.length ≤ reachBytes := z0.text
  have t1 : s1.data.toList.length ≤ reachBytes := z1.text
  refine ⟨⟨s0.data.toList, s1.data.toList, lv, le, lf⟩, ⟨V, vc, E, ec, F, fc⟩, rfl, ⟨by simp only; omega, by simp only; omega, hbv, fun x hx => ?_, fun x hx => ?_⟩, ⟨hrv, hre, hrf⟩⟩
  ·obtain ⟨h1, h2, h3, h4, h5, h6, h7⟩ := hbe x hx
   constructor <;> omega
  ·obtain ⟨h1, h2, h3, h4⟩ := hbf x hx
   constructor <;> omega
theorem nR {r : Reach} {b0 : Nat} {v : Value} {d : DataW H} {p : List MemPlace} (hv : Value.okWide prog w r b0 29 v) (h : DataW.Trod enc prog w 0 (fun _ => true) true 29 v d p) (hz : Sized prog 29 d) :
 ∃ (i : In) (V T : Option Addr) (vc tc : Nat), v = .agg (In.cells i V T vc tc).toArray ∧ BdOk i.vars ∧ (∀ t ∈ i.toks, (t.worker.length : Int) < 4611686018427387904) ∧ Rd w V (i.vars.length * 5) (AH Bd.cells i.vars) ∧ Rd w T (i.toks.length * 9) (AH Tk.cells i.toks) := by
 obtain ⟨cs, rfl, hsz⟩ := okWide_struct underlying29 hv
 rw [YU] at hsz
 obtain ⟨fuel, hf⟩ := h
 obtain ⟨xs, n, _, hx, hl, hlen, hfl⟩ := DataW.trod_struct underlying29 hf
 obtain ⟨cs⟩ := cs
 match cs, hsz with
 | [c0, c1, c2, c3, c4], _ =>
 match xs, hlen with
 | [y0, y1, y2, y3, y4], _ =>
  have k0 : DataW.trod enc prog w 0 (fun _ => true) true n 3 (List.take (prog.cellsOf 3) [c0, c1, c2, c3, c4]) = some y0 := hfl 0 _ rfl
  rw [I7] at k0
  obtain ⟨a0, e0, _⟩ := DataW.trod_int underlying3 k0
  obtain rfl : c0 = _ := by simpa using e0
  have k1 : DataW.trod enc prog w 0 (fun _ => true) true n 9 (List.take (prog.cellsOf 9) [c1, c2, c3, c4]) = some y1 := hfl 1 _ rfl
  rw [DZ] at k1
  obtain ⟨s1, e1, _, _⟩ := DataW.trod_string underlying9 k1
  obtain rfl : c1 = _ := by simpa using e1
  have k2 : DataW.trod enc prog w 0 (fun _ => true) true n 5 (List.take (prog.cellsOf 5) [c2, c3, c4]) = some y2 := hfl 2 _ rfl
  rw [kP] at k2
  obtain ⟨a2, e2, _, w2⟩ := DataW.trod_int underlying5 k2
  obtain rfl : c2 = _ := by simpa using e2
  have k3 : DataW.trod enc prog w 0 (fun _ => true) true n 22 (List.take (prog.cellsOf 22) [c3, c4]) = some y3 := hfl 3 _ rfl
  have k4 : DataW.trod enc prog w 0 (fun _ => true) true n 27 (List.take (prog.cellsOf 27) [c4]) = some y4 := hfl 4 _ rfl
  rw [QB] at k3
  rw [YT] at k4
  injection hx with hx1 hx2
  rw [hx1] at hz
  have z3 := Sized.field (j := 3) underlying29 hz rfl rfl
  have z4 := Sized.field (j := 4) underlying29 hz rfl rfl
  obtain ⟨V, vn, vc, rfl⟩ := LV underlying22 k3
  obtain ⟨T, tn, tc, rfl⟩ := LV underlying27 k4
  obtain ⟨lv, rfl, hbv, hrv⟩ := WP k3 z3
  obtain ⟨lt, rfl, hbt, hrt⟩ := nQ k4 z4
  have hlt := RH
  refine ⟨⟨a0, s1.data.toList, UInt8.ofNat a2.toNat, lv, lt⟩, V, T, vc, tc, by rw [VS w2]; rfl, hbv, fun t ht => ?_, hrv, hrt⟩
  have := (hbt t ht).2.2
  omega
end
theorem X5 {l : List (String × DataW Unit)} {W : World} {n nm : String} {d : DataW Unit} {g : Nat} (hL : laidMet prog l W) (hm : (n, .iface nm d) ∈ l) (hg : prog.globalNamed n = some g) (ht : (prog.globals[g]?).map (·.type) = some 192) : ∃ t p, W.cell? ⟨g, 0, none⟩ = some (.iface t p) := by
 obtain ⟨ps, hv, _, _⟩ := hL
 obtain ⟨g', t', cs, fuel, q, e1, e2, e3, e4⟩ := OX hv hm
 obtain rfl := Option.some.inj (hg.symm.trans e1)
 obtain rfl := Option.some.inj (ht.symm.trans e2)
 obtain ⟨cs⟩ := cs
 have h0 := World.var?_cell hg e3 0
 cases fuel with
 | zero => simp [DataW.trod] at e4
 | succ fuel =>
  match cs, e4, h0 with
  | [], e4, _ => simp [DataW.trod, underlying192] at e4
  | [E], e4, h0 =>
   cases E with
   | iface u v => exact ⟨u, v, by simpa using h0⟩
   | _ => simp [DataW.trod, underlying192] at e4
  | _ :: _ :: _, e4, _ => simp [DataW.trod, underlying192] at e4
theorem nF {l : List (String × DataW Unit)} {W : World} {d1 d2 : DataW Unit} {n1 n2 : String} (hL : laidMet prog l W) (hu : Laid W utfL) (h1 : ("strconv.ErrSyntax", .iface n1 d1) ∈ l) (h2 : ("strconv.ErrRange", .iface n2 d2) ∈ l) : Lay0 W := by
 obtain ⟨t, p, e1⟩ := X5 hL h1 (g := 2) gkr gkr
 obtain ⟨t', p', e2⟩ := X5 hL h2 (g := 3) gkr gkr
 refine ⟨hu, ⟨⟨t, p, e1⟩, t', p', e2⟩, ?_⟩
 have b1 := World.block_lt_of_cell? W _ e1
 have b2 := World.block_lt_of_cell? W _ e2
 obtain ⟨_, _, b3⟩ := hu _ (List.mem_cons_self ..)
 obtain ⟨_, _, b4⟩ := hu _ (List.mem_cons_of_mem _ (List.mem_cons_self ..))
 have b3 := (Array.getElem?_eq_some_iff.1 b3).1
 have b4 := (Array.getElem?_eq_some_iff.1 b4).1
 simp only at b1 b2 b3 b4
 unfold nGlob
 omega
end
end Go.Proofs.YtjaocmocdhckaaaGreatDoor
