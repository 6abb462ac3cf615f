/- Lemmas that the last text rests on. Condition: each says its own. -/
import Derived.Test.YtadgfojhjnkliaaGreatDoorZMv10
import Derived.SizedLaws
import Derived.Lib.SmallJoins
import Derived.ChangeArms
set_option maxHeartbeats 16000000
set_option maxRecDepth 100000
namespace Go.Proofs.YtadgfojhjnkliaaGreatDoor
open Go.ChangeShapes Go.WideShapes Go.ChangeAt Go.RowKit Go.Deep Go.Joins
open Tryz
def Sized {H : Type} (P : Program) (t : TypeId) (d : DataW H) : Prop := ∀ n ∈ d.weights P t, n ≤ reachBytes
theorem JQ {H : Type} {P : Program} {e : TypeId} : ∀ {ds : List (DataW H)} {d : DataW H}, d ∈ ds → ∀ n ∈ d.weights P e, n ∈ DataW.weightsAll P e ds
 | d0 :: ds, d, hd, n, hn => by
  simp only [DataW.weightsAll, List.mem_append]
  rcases List.mem_cons.1 hd with rfl | hd
  ·exact .inl hn
  ·exact .inr (JQ hd n hn)
section
variable {H : Type} {P : Program} {t e : TypeId}
theorem Sized.of {ts : List TypeId} {ds : List (DataW H)} (h : (DataW.weightsEach P ts ds).all (· ≤ reachBytes) = true) {j : Nat} {t : TypeId} {d : DataW H} (ht : ts[j]? = some t) (hd : ds[j]? = some d) : Sized P t d := fun n hn => by
 have := List.all_eq_true.1 h _ (DataW.weights_mem_each ht hd n hn)
 simpa using this
theorem Sized.elem {D sp : List (DataW H)} {d : DataW H} (ht : P.underlying t = some (.slice e)) (h : Sized P t (.slice D sp)) (hd : d ∈ D) : Sized P e d := fun n hn => h n (by
 simp only [DataW.weights, ht, List.mem_cons, List.mem_append]
 exact .inr (.inl (JQ hd n hn)))
theorem Sized.len {D sp : List (DataW H)} (ht : P.underlying t = some (.slice e)) (hb : 0 < P.bytesOf e) (h : Sized P t (.slice D sp)) : D.length ≤ reachBytes := by
 have := h ((D.length + sp.length) * P.bytesOf e) (by simp [DataW.weights, ht])
 exact Nat.le_trans (Nat.le_trans (Nat.le_add_right _ _) (Nat.le_mul_of_pos_right _ hb)) this
theorem Sized.field {fs : Array Field} {D : List (DataW H)} {j : Nat} {f : Field} {d : DataW H} (ht : P.underlying t = some (.struct fs)) (h : Sized P t (.agg D)) (hf : fs[j]? = some f) (hd : D[j]? = some d) : Sized P f.type d := fun n hn => h n (by
 simp only [DataW.weights, ht]
 exact DataW.weights_mem_each (j := j) (by rw [List.getElem?_map, Array.getElem?_toList, hf]; rfl) hd n hn)
theorem Sized.text {l : List UInt8} (h : Sized (H := H) P t (.lit (.string l))) : l.length ≤ reachBytes := h _ (by simp only [DataW.weights]; exact List.mem_singleton.2 rfl)
end
theorem VQ : reachBytes < 4611686018427387904 := by decide
theorem N8 {α β : Type} (f : β → α) (Q : β → Prop) : ∀ (rows : List α), (∀ r ∈ rows, ∃ p, r = f p ∧ Q p) → ∃ l : List β, rows = l.map f ∧ ∀ x ∈ l, Q x
 | [], _ => ⟨[], rfl, fun _ h => by cases h⟩
 | r :: rows, h => by
  obtain ⟨p, hp, hq⟩ := h r (by simp)
  obtain ⟨l, hl, hl'⟩ := N8 f Q rows (fun r hr => h r (by simp [hr]))
  exact ⟨p :: l, by rw [hp, hl]; rfl, fun x hx => by
   rcases List.mem_cons.1 hx with rfl | hx
   ·exact hq
   ·exact hl' x hx⟩
theorem RN : prog.cellsOf 95 = 5 := by kernel_rfl
theorem OW : prog.cellsOf 67 = 4 := by kernel_rfl
theorem X4 : prog.cellsOf 26 = 5 := by kernel_rfl
theorem D6 : prog.cellsOf 9 = 1 := by kernel_rfl
theorem N1 : prog.cellsOf 5 = 1 := by kernel_rfl
theorem Z1 : prog.cellsOf 4 = 1 := by kernel_rfl
theorem eV : prog.cellsOf 2 = 1 := by kernel_rfl
theorem Z2 : 0 < prog.bytesOf 95 := by rw [show prog.bytesOf 95 = 56 by kernel_rfl]; decide
theorem X7 : prog.cellsOf 22 = 1 := by kernel_rfl
section
variable {H : Type} {enc : TypeId × Value → H} {w : World}
theorem XY {r : List Value} {n : Nat} {x : DataW H × List MemPlace} (h : DataW.trod enc prog w 0 (fun _ => true) true n 67 r = some x) (hz : Sized prog 67 x.1) : ∃ v : Vl, r = v.cells ∧ v.text.length ≤ reachBytes := by
 obtain ⟨y0, y1, y2, y3, m, rfl, hl, h0, h1, h2, h3⟩ := trod_struct4 underlying67 h
 rw [OW] at hl
 simp only [N1, Z1, eV, D6] at h0 h1 h2 h3
 obtain ⟨a, ha, _, wa⟩ := DataW.trod_int underlying5 h0
 obtain ⟨b, hb, _⟩ := DataW.trod_int underlying2 h1
 obtain ⟨c, hc, _⟩ := DataW.trod_bool underlying4 h2
 obtain ⟨s, hs, hd, _⟩ := DataW.trod_string underlying9 h3
 have hz3 := Sized.field (j := 3) underlying67 hz rfl rfl
 rw [hd] at hz3
 match r, hl with
 | [r0, r1, r2, r3], _ =>
  obtain rfl : r0 = _ := by simpa using ha
  obtain rfl : r1 = _ := by simpa using hb
  obtain rfl : r2 = _ := by simpa using hc
  obtain rfl : r3 = _ := by simpa using hs
  exact ⟨⟨UInt8.ofNat a.toNat, b, c, s.data.toList⟩, by rw [ZJ wa]; rfl, hz3.text⟩
theorem cY {r : List Value} {d : DataW H} (h : bQ enc prog w 95 r d) (hz : Sized prog 95 d) : ∃ b : Bd, r = b.cells ∧ b.name.length ≤ reachBytes ∧ b.v.text.length ≤ reachBytes := by
 obtain ⟨n, p, h⟩ := h
 obtain ⟨y0, y1, m, hx, hl, h0, h1⟩ := trod_struct2 underlying95 h
 rw [RN] at hl
 simp only [Prod.mk.injEq] at hx
 obtain ⟨rfl, _⟩ := hx
 simp only [OW, D6] at h0 h1
 obtain ⟨s, hs, hd, _⟩ := DataW.trod_string underlying9 h0
 have hz0 := Sized.field (j := 0) underlying95 hz rfl rfl
 have hz1 := Sized.field (j := 1) underlying95 hz rfl rfl
 rw [hd] at hz0
 obtain ⟨v, hv, hvt⟩ := XY h1 hz1
 match r, hl with
 | r0 :: r', hl =>
  obtain rfl : r0 = _ := by simpa using hs
  have hl' : r'.length = 4 := by simpa using hl
  have e : r' = v.cells := by
   have e1 : (r'.take 4) = v.cells := hv
   rw [List.take_of_length_le (by omega)] at e1
   exact e1
  exact ⟨⟨s.data.toList, v⟩, by rw [e]; rfl, hz0.text, hvt⟩
theorem R4 {A : Option Addr} {len cap fuel : Nat} {x : DataW H × List MemPlace} (h : DataW.trod enc prog w 0 (fun _ => true) true fuel 22 [.slice A len cap] = some x) (hz : Sized prog 22 x.1) :
 ∃ l : List Bd, l.length = len ∧ BdOk l ∧ Rd w A (l.length * 5) (jP l) := by
 obtain ⟨rows, D, hl, hD, _, hr, _, _, hn, hx, hd⟩ := QB underlying22 RN (by omega) h
 have key : (∀ r ∈ rows, ∃ b : Bd, r = b.cells ∧ (b.name.length ≤ reachBytes ∧ b.v.text.length ≤ reachBytes)) ∧ len ≤ reachBytes := by
  rcases hd with ⟨_, h0, _⟩ | ⟨sp, hs, _⟩
  ·have : rows = [] := List.eq_nil_of_length_eq_zero (by omega)
   subst this
   exact ⟨fun r hr => by (cases hr), by omega⟩
  ·rw [hs] at hz
   refine ⟨fun r hr => ?_, by rw [← hD]; exact hz.len underlying22 Z2⟩
   obtain ⟨i, hi⟩ := List.getElem?_of_mem hr
   obtain ⟨d, hdi, hrd⟩ := hx i r hi
   exact cY hrd (hz.elem underlying22 (List.mem_of_getElem? hdi))
 obtain ⟨l, rfl, hq⟩ := N8 Bd.cells (fun b => b.name.length ≤ reachBytes ∧ b.v.text.length ≤ reachBytes) rows key.1
 rw [List.length_map] at hl
 subst hl
 have hlt := VQ
 have hlen := key.2
 exact ⟨l, rfl, ⟨by omega, fun x hx => by have := (hq x hx).1; omega, fun x hx => by have := (hq x hx).2; omega⟩, hr⟩
end
end Go.Proofs.YtadgfojhjnkliaaGreatDoor
