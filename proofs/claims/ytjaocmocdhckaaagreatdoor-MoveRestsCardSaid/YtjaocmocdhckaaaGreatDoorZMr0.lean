/- Lemmas that the last text rests on. Condition: each says its own. -/
import Derived.Test.YtjaocmocdhckaaaGreatDoorZMrq
import Derived.Test.YtjaocmocdhckaaaGreatDoorZMw13
set_option maxHeartbeats 16000000
set_option maxRecDepth 100000
namespace Go.Proofs.YtjaocmocdhckaaaGreatDoor
open Go.RowKit
open Tryz
theorem dQ {w w2 : World} {b j : Nat} (h : w2.heap[b]? = w.heap[b]?) : w2.cell? ⟨b, j, none⟩ = w.cell? ⟨b, j, none⟩ := by
 unfold World.cell?
 simp only [h]
theorem gH {w' : World} {b0 n : Nat} {A : Option Addr} {xs : List Value} (h0 : Rd w' A n xs) (h : ∀ w2, SP b0 [] w' w2 → ∃ ys, Rd w2 A n ys) : ∀ w2, SP b0 [] w' w2 → Rd w2 A n xs := fun w2 h2 => by
 refine h0.keep fun hn b off e j hj => ?_
 have hlt := h0.lt hn b off e
 by_cases hb : b0 ≤ b
 ·exact dQ (h2 b (.inr hb) hlt)
 ·exfalso
  obtain ⟨ys, hy⟩ := h { w' with heap := w'.heap.setIfInBounds b (.cells #[] 0) } (fun g hg hgl => by
   rcases hg with hg | hg
   ·cases hg
   ·show (w'.heap.setIfInBounds b _)[g]? = _
    rw [Array.getElem?_setIfInBounds_ne AM])
  obtain ⟨b', off', e', u, _, hc⟩ := hy.at_ hn
  rw [e] at e'
  injection e' with e'
  injection e' with e1 _ _
  subst e1
  unfold World.cell? at hc
  simp only [Array.getElem?_setIfInBounds_self_of_lt hlt] at hc
  simp at hc
theorem qJ {tid : Int} {l : List Tk} {j : Nat} {y : Tk} (h : ixT tid l = ((j : Nat) : Int)) (hj : l[j]? = some y) : y.id = tid := by
 unfold ixT at h
 rcases ZV (fun (_ : Nat) (t : Tk) => decide (t.id = tid)) l 0 with h1 | ⟨q, x, h1, h2, h3⟩
 ·omega
 ·have : q = j := by omega
  subst this
  rw [hj] at h2
  injection h2 with h2
  subst h2
  exact odt h3
theorem n8 (m : Md) (a : MdA) (w : World) (ho : MdOk m) (hM : MdIn w m a) (hY : Lay0 w) :
 Calls prog 7 #[.agg (Md.cells m a).toArray] w fun e w' => ∃ p er c F, e = .returned (.tuple #[.pointer p, AJ er]) ∧ (er = 0 → ∃ gc, p = some ⟨gc, 0, none⟩ ∧ CourseN w' m gc c F) ∧ (er = 0 → LB m = true) ∧ (∀ g ∈ F, w.heap.size ≤ g ∧ g < w'.heap.size) ∧ (er ≠ 0 → p = none) ∧ Fr0 w w' :=
 (iF m a w ho hM hY).mono fun e w' ⟨h, hf⟩ => by
  rcases h with ⟨hn, gc, c, F, h1, h2, h3⟩ | ⟨_, h1⟩
  ·exact ⟨some ⟨gc, 0, none⟩, 0, c, F, h1, fun _ => ⟨gc, rfl, h2⟩, fun _ => hn, h3, fun h => absurd rfl h, hf⟩
  ·exact ⟨none, 140, ⟨⟨none, 0, none, 0, none, 0⟩, 0, 0, 0, 0, 0, [], [], [], fun _ => zeroEl, fun _ => false, fun _ => zeroFl, fun _ => false, fun _ => [], [], fun _ => [], [], fun _ => none, fun _ => none, []⟩, [], h1, fun z => absurd z BU, fun z => absurd z BU, fun g hg => absurd hg (by simp), fun _ => rfl, hf⟩
structure Out (m : Md) (c : CrA) (i : In) (tid next clock : Int) (ro : List Tk) (p : Nat) (st : UInt8) (a0 : Int) (a1 : List UInt8) (nx : Int) : Prop where
 id : a0 = i.id
 chk : GD m c ⟨a0, a1, st, i.vars, ro⟩ nx clock = true
 ge : next ≤ nx
 lo : 0 ≤ next
 st : ro.length = 0 ↔ st.toNat = 2
 pl : p ≤ ro.length
 cnt : nx = next + ((ro.length - p : Nat) : Int)
 old : ∀ k t, ro[k]? = some t → k < p → t.id ≤ next ∧ t.id ≠ tid ∧ t ∈ i.toks
 new : ∀ k t, ro[k]? = some t → p ≤ k → t.id = next + ((k - p : Nat) : Int) + 1 ∧ (t.loc ≠ [] → t.born = clock) ∧ t.worker = []
 len : ro.length ≤ 1000000
 wk : ∀ t ∈ ro, (t.worker.length : Int) < 4611686018427387904
theorem oN {b0 b1 : Nat} {w w2 : World} (h : ∀ g ∈ [] ++ List.range' b0 (b1 - b0), g < w.heap.size → w2.heap[g]? = w.heap[g]?) (hb : w.heap.size ≤ b1 := by exact Nat.le_refl _) : SP b0 [] w w2 := fun g hg hlt => h g (by
 rw [List.nil_append, List.mem_range'_1]
 rcases hg with hg | hg
 ·cases hg
 ·omega) hlt
theorem n7 {b0 b1 : Nat} {P : World → Prop} : ∀ g ∈ (As.res b0 b1 [] P).fp, b0 ≤ g ∧ g < b1 := fun g hg => by
 have hg : g ∈ [] ++ List.range' b0 (b1 - b0) := hg
 rw [List.nil_append, List.mem_range'_1] at hg
 omega
theorem q8 {m : Md} {c : CrA} (R : Rl m) (Z : Cz m c) {i : In} {tid : Int} {via : List UInt8} {next clock : Int} {j : Nat} {y : Tk} {vs : List Bd} {fired : List (List UInt8)} {σ' : Mo} {ls : List Ar} (hcm : CmY m c i tid via next clock j y) (hR : Rn m c vs (I5 (i.toks.eraseIdx j) (DO m c y via).1 fired) σ') (hI : Iv c σ') (hf : σ'.fired.length ≤ 1025) (hr : SO c σ') (hp : ls.Perm (σ'.on ++ σ'.done)) (hn : next + ((PJ ls).length : Int) ≤ 2147483647) (hwk : ∀ t ∈ i.toks, (t.worker.length : Int) < 4611686018427387904) (htl : i.toks.length ≤ 300) :
 Out m c i tid next clock (ES c (i.toks.eraseIdx j) ls next clock) (K6 (i.toks.eraseIdx j) ls).length (if decide ((((ES c (i.toks.eraseIdx j) ls next clock).length : Nat) : Int) = (0 : Int)) = true then 2 else 1) i.id i.mdl (next + ((PJ ls).length : Int)) := by
 obtain ⟨hck, hix, hj, hc2⟩ := hcm
 obtain ⟨j', z, e1, e2⟩ := iU (tid := tid) (l := i.toks) (by rw [hix]; omega)
 have hjj : j' = j := by rw [hix] at e1; omega
 subst hjj
 rw [hj] at e2; injection e2 with e2; subst e2
 have hyid : y.id = tid := qJ hix hj
 have hlen : (ES c (i.toks.eraseIdx j') ls next clock).length = (K6 (i.toks.eraseIdx j') ls).length + (PJ ls).length := by rw [RG, List.length_append, WI]
 have hsm : ∀ t ∈ K6 (i.toks.eraseIdx j') ls, t ∈ i.toks.eraseIdx j' := fun t ht => (List.mem_filter.1 ht).1
 have hkm : ∀ t ∈ i.toks.eraseIdx j', t ∈ i.toks := fun t ht => List.mem_of_mem_eraseIdx ht
 have hnew : (PJ ls).length ≤ 900000 := by
  have h1 : (PJ ls).length ≤ ls.length := List.length_filter_le _ _
  have h2 := hp.length_eq
  rw [List.length_append] at h2
  have := hI.on; have := hI.done
  omega
 have hstl : (K6 (i.toks.eraseIdx j') ls).length ≤ 300 := by
  have h1 : (K6 (i.toks.eraseIdx j') ls).length ≤ (i.toks.eraseIdx j').length := List.length_filter_le _ _
  have h2 : (i.toks.eraseIdx j').length ≤ i.toks.length := (List.eraseIdx_sublist i.toks j').length_le
  omega
 refine ⟨rfl, ?_, by omega, (MH hck).1.1, ?_, by omega, by omega, fun k t hk hlt => ?_, fun k t hk hge => ?_, by omega, fun t ht => ?_⟩
 ·exact W4 R Z hck hj hc2 hR hr hp hn (by by_cases h : (ES c (i.toks.eraseIdx j') ls next clock).length = 0 <;> simp [h])
 ·by_cases h : (ES c (i.toks.eraseIdx j') ls next clock).length = 0 <;> simp [h]
 ·rcases K7 hk with ⟨_, h⟩ | ⟨q, _, h, _⟩
  ·have h1 := hsm t (List.mem_of_getElem? h)
   refine ⟨((MH hck).2 t (hkm t h1)).2.2.2, fun he => ?_, hkm t h1⟩
   obtain ⟨q, hq, hqt⟩ := List.mem_eraseIdx_iff_getElem?.1 h1
   exact hq (SD hck hqt hj (by rw [he, hyid]))
  ·omega
 ·rcases K7 hk with ⟨h, _⟩ | ⟨q, a, h, _, ha, rfl⟩
  ·omega
  ·refine ⟨by rw [OT]; omega, ?_, ?_⟩
   ·unfold KX; split
    ·exact fun _ => rfl
    ·split <;> exact fun h => absurd rfl h
   ·unfold KX; split
    ·rfl
    ·split <;> rfl
 ·obtain ⟨k, hk⟩ := List.getElem?_of_mem ht
  rcases K7 hk with ⟨_, h⟩ | ⟨q, a, h, _, ha, rfl⟩
  ·exact hwk t (hkm t (hsm t (List.mem_of_getElem? h)))
  ·have : (KX c clock (next + (q : Int) + 1) a).worker = [] := by
    unfold KX; split
    ·rfl
    ·split <;> rfl
   rw [this]; decide
theorem sB (m : Md) (gc : Nat) (c : CrA) (F : List Nat) (i : In) (V T : Option Addr) (vc tc : Nat) (tid : Int) (via : List UInt8) (next clock : Int) (w : World) (ho : MdOk m) (R : Rl m) (hC : CourseN w m gc c F) (htl : i.toks.length ≤ 300) (hok : BdOk i.vars) (hwk : ∀ t ∈ i.toks, (t.worker.length : Int) < 4611686018427387904) (hvia : via.length ≤ 4611686018427387903) (hV : Rd w V (i.vars.length * 5) (AH Bd.cells i.vars)) (hT : Rd w T (i.toks.length * 9) (AH Tk.cells i.toks)) (hY : Lay0 w) :
 Calls prog 8 #[.pointer (some ⟨gc, 0, none⟩), .agg (In.cells i V T vc tc).toArray, AJ tid, str via, AJ next, AJ clock] w fun e w' => ∃ (ro : List Tk) (p : Nat) (st : UInt8) (a0 : Int) (a1 : List UInt8) (W0 : Option Addr) (vn wc : Nat) (X0 : Option Addr) (xc : Nat) (a5 : Int) (Y0 : Option Addr) (yn yc : Nat) (er : Int), e = .returned (.tuple #[.agg [AJ a0, str a1, .int .u8 (st.toNat : Int), .slice W0 vn wc, .slice X0 ro.length xc, AJ a5, .slice Y0 yn yc].toArray, AJ er]) ∧ (er ≠ 0 → a5 = 0 ∧ yn = 0 ∧ ro = []) ∧ (er = 0 → vn = i.vars.length ∧ Out m c i tid next clock ro p st a0 a1 a5) ∧ (∀ w2, SP w.heap.size [] w' w2 → er = 0 → Rd w2 W0 (i.vars.length * 5) (AH Bd.cells i.vars) ∧ Rd w2 X0 (ro.length * 9) (AH Tk.cells ro)) ∧ Fr0 w w' :=
 (aI m gc c F i V T vc tc tid via next clock w ho R hC htl hok hwk hvia hV hT hY).mono fun e w' ⟨hf, h⟩ => by
  rcases h with ⟨rfl, _⟩ | ⟨j, y, hcm, h⟩
  ·exact ⟨[], 0, 0, 0, [], none, 0, 0, none, 0, 0, none, 0, 0, 1, rfl, fun _ => ⟨rfl, rfl, rfl⟩, fun h => absurd h BU, fun _ _ h => absurd h BU, hf⟩
  ·rcases h w' (fun _ _ _ => rfl) with ⟨rfl, _⟩ | ⟨σ', ls, V', vc', T', tc', A', fc', rfl, hR, ⟨hI, hfl⟩, hr, hp, hn, hRV, hRT, _⟩
   ·exact ⟨[], 0, 0, 0, [], none, 0, 0, none, 0, 0, none, 0, 0, 3, rfl, fun _ => ⟨rfl, rfl, rfl⟩, fun h => absurd h BU, fun _ _ h => absurd h BU, hf⟩
   ·have hO := q8 R hC.cz hcm hR hI hfl hr hp hn hwk htl
    have both : ∀ w2, SP w.heap.size [] w' w2 → (∃ ys, Rd w2 V' (i.vars.length * 5) ys) ∧ ∃ ys, Rd w2 T' ((ES c (i.toks.eraseIdx j) ls next clock).length * 9) ys := fun w2 h2 => by
     rcases h w2 h2 with ⟨he, _⟩ | ⟨σ2, ls2, V2, vc2, T2, tc2, A2, fc2, he, _, _, _, _, _, h3, h4, _⟩
     ·simp at he
     ·simp only [cH, Ending.returned.injEq, Value.tuple.injEq, Array.mk.injEq, List.cons.injEq, Value.agg.injEq, Value.slice.injEq] at he
      obtain ⟨⟨_, _, _, ⟨e1, _, _⟩, ⟨e2, e3, _⟩, _⟩, _⟩ := he
      rw [e1, e2, e3]
      exact ⟨⟨_, h3⟩, _, h4⟩
    refine ⟨_, _, (if decide ((((ES c (i.toks.eraseIdx j) ls next clock).length : Nat) : Int) = (0 : Int)) = true then 2 else 1), _, _, V', _, vc', T', tc', _, A', σ'.fired.length, fc', 0, ?_, fun h => absurd rfl h, fun _ => ⟨rfl, hO⟩, fun w2 h2 _ => ⟨gH hRV (fun w2 h2 => (both w2 h2).1) w2 h2, gH hRT (fun w2 h2 => (both w2 h2).2) w2 h2⟩, hf⟩
    by_cases hz : decide ((((ES c (i.toks.eraseIdx j) ls next clock).length : Nat) : Int) = (0 : Int)) = true
    ·simp only [cH, if_pos hz]; rfl
    ·simp only [cH, if_neg hz]; rfl
end Go.Proofs.YtjaocmocdhckaaaGreatDoor
