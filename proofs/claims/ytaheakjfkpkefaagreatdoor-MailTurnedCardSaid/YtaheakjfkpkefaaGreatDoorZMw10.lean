/- Lemmas that the last text rests on. Condition: each says its own. -/
import Derived.Test.YtaheakjfkpkefaaGreatDoorZMw9
set_option maxHeartbeats 16000000
set_option maxRecDepth 100000
namespace Go.Proofs.YtaheakjfkpkefaaGreatDoor
open Go.RowKit
section
section
variable {m : Md} {c : CrA}
theorem qJ {i : In} {next k : Int} {b1 : Bool} {j : Nat} {y : Tk} (h : ME m c i next k b1 j y = true) : b1 = true ∧ (GE m c y = true ∧ MU y k = true ∧ 1 ≤ y.id ∧ y.id ≤ next) ∧ (j = 0 ∨ jJ i j < y.id) := by
 unfold ME at h
 split at h
 ·rename_i h1
  split at h
  ·rename_i h2
   split at h
   ·rename_i h3
    split at h
    ·split at h
     ·rename_i h5
      split at h
      ·rename_i h6; exact ⟨h1, ⟨h6, h, odt h2, odt h3⟩, .inl (by have := odt h5; omega)⟩
      ·cases h
     ·split at h
      ·rename_i h5
       split at h
       ·rename_i h6; exact ⟨h1, ⟨h6, h, odt h2, odt h3⟩, .inr (odt h5)⟩
       ·cases h
      ·cases h
    ·cases h
   ·cases h
  ·cases h
 ·cases h
theorem VE {i : In} {next k : Int} {b0 : Bool} : ∀ {j : Nat}, ZA m c i next k b0 j = true → b0 = true ∧ ∀ q y, q < j → i.toks[q]? = some y → (GE m c y = true ∧ MU y k = true ∧ 1 ≤ y.id ∧ y.id ≤ next) ∧ (q = 0 ∨ jJ i q < y.id)
 | 0, h => ⟨h, fun q y hq => absurd hq (Nat.not_lt_zero _)⟩
 | j + 1, h => by
  rw [ZA] at h
  cases hj : i.toks[j]? with
  | none =>
   rw [hj] at h
   obtain ⟨h1, h2⟩ := VE h
   refine ⟨h1, fun q y hq hy => ?_⟩
   by_cases hqj : q = j
   ·subst hqj; rw [hj] at hy; cases hy
   ·exact h2 q y A0 hy
  | some y0 =>
   rw [hj] at h
   have h9 := qJ h
   obtain ⟨h1, h2⟩ := VE h9.1
   refine ⟨h1, fun q y hq hy => ?_⟩
   by_cases hqj : q = j
   ·subst hqj; rw [hj] at hy; injection hy with hy; subst hy; exact h9.2
   ·exact h2 q y A0 hy
theorem qK {i : In} {next k : Int} (h : P9 m i next k = true) : 0 ≤ next ∧ next ≤ 2147483647 ∧ 0 ≤ k ∧ k ≤ 1099511627776 ∧ i.mdl = m.id ∧ EP i.vars m.vars = true := by
 have h0 : J0 m i next k = true := by
  cases hc : J0 m i next k with
  | true => rfl
  | false => unfold P9 at h; rw [hc] at h; simp at h
 unfold J0 at h0
 split at h0
 ·rename_i hc
  simp only [Bool.and_eq_true, decide_eq_true_eq] at hc
  obtain ⟨⟨⟨⟨⟨⟨a1, a2⟩, a3⟩, a4⟩, a5⟩, _⟩, _⟩ := hc
  exact ⟨a1, a2, a3, a4, a5, h0⟩
 ·cases h0
theorem XR {i : In} {next k : Int} (h : EW m c i next k = true) : (0 ≤ next ∧ next ≤ 2147483647 ∧ 0 ≤ k ∧ k ≤ 1099511627776 ∧ i.mdl = m.id ∧ EP i.vars m.vars = true) ∧ ∀ y ∈ i.toks, GE m c y = true ∧ MU y k = true ∧ 1 ≤ y.id ∧ y.id ≤ next := by
 unfold EW at h
 rw [Bool.and_eq_true] at h
 obtain ⟨h1, h2⟩ := VE h.1
 refine ⟨qK h1, fun y hy => ?_⟩
 obtain ⟨q, hq, he⟩ := List.mem_iff_getElem.1 hy
 exact (h2 q y hq (by rw [List.getElem?_eq_getElem hq, he])).1
variable (R : Rl m)
include R
theorem q6 {x : El} (hx : x ∈ m.els) (h7 : x.kind.toNat = 7) {f : Fl} (hf : f ∈ m.fls) (hfx : f.frm = x.id) : ∃ y ∈ m.els, y.id = f.tg ∧ y.kind.toNat = 8 := by
 obtain ⟨y, hy, hyi, _⟩ := R.ends hf
 refine ⟨y, hy, hyi, ?_⟩
 have h4 := R.four x hx
 unfold IJ at h4
 rw [if_neg (by simp [h7]), if_neg (by simp [h7]), if_neg (by simp [h7]), if_pos (by simp [h7])] at h4
 split at h4
 ·have h5 : N3 m f = false := by
   cases hq : N3 m f with
   | false => rfl
   | true =>
    rw [Bool.not_eq_true', List.any_eq_false] at h4
    exact absurd hq (h4 f (List.mem_filter.2 ⟨hf, by simp [hfx]⟩))
  unfold N3 at h5
  rw [← hyi, lW R.els hy] at h5
  simp only [Bool.or_eq_false_iff, Bool.not_eq_false', decide_eq_true_eq] at h5
  have := h5.1
  simp only [Option.getD_some] at this
  omega
 ·cases h4
variable (Z : Cz m c)
include Z
theorem WQ {k : List UInt8} (h0 : (c.atf k).kind.toNat ≠ 0) (h2 : (c.atf k).kind.toNat ≠ 2) : 0 < (c.outs k).length ∧ ∃ x ∈ m.els, x.id = k ∧ c.atf k = x := by
 rcases bP m k with ⟨x, hx, rfl⟩ | h
 ·rw [TV R Z hx] at h2
  exact ⟨KF R Z hx h2, x, hx, rfl, TV R Z hx⟩
 ·rw [Z.eA, (bQ h).1] at h0; exact absurd rfl h0
theorem gJ {t : Tk} {via : List UInt8} (hv : via ∈ DN m c t ∨ ((c.atf t.loc).kind.toNat = 4 ∧ via = t.loc)) : 0 < (c.outs via).length ∧ ∃ x ∈ m.els, x.id = via ∧ c.atf via = x := by
 rcases hv with hv | ⟨h4, rfl⟩
 ·unfold DN at hv
  split at hv
  ·cases hv
  ·rcases List.mem_append.1 hv with hv | hv
   ·unfold YL at hv
    split at hv
    ·rename_i hk
     simp only [Bool.or_eq_true, decide_eq_true_eq] at hk
     rw [List.mem_singleton] at hv
     rw [hv]
     exact WQ R Z A0 A0
    ·split at hv
     ·rename_i hk
      have hk := odt hk
      obtain ⟨k, hk2, rfl⟩ := List.mem_map.1 hv
      obtain ⟨f, hf, rfl, hfr, x, hx, hxi⟩ := TU R Z hk2
      rw [(m1 R Z hf).1]
      have hk7 : x.kind.toNat = 7 := by rw [← hxi, TV R Z hx] at hk; omega
      obtain ⟨y, hy, hyi, hy8⟩ := q6 R hx hk7 hf (by rw [hfr, hxi])
      rw [← hyi]
      exact ⟨KF R Z hy A0, y, hy, rfl, TV R Z hy⟩
     ·cases hv
   ·obtain ⟨k, _, hk⟩ := List.mem_flatMap.1 hv
    unfold CX at hk
    obtain ⟨x, hx, rfl⟩ := List.mem_map.1 hk
    obtain ⟨hx1, hx2⟩ := List.mem_filter.1 hx
    simp only [Bool.and_eq_true, decide_eq_true_eq] at hx2
    exact ⟨KF R Z hx1 A0, x, hx1, rfl, TV R Z hx1⟩
 ·exact WQ R Z A0 A0
omit R Z in
theorem bD {nm : List UInt8} : ∀ {l k : List Bd} {i : Nat}, EP l k = true → (k.map (·.name)).Nodup → ∀ z ∈ k, z.name = nm → ∃ v, (ffN (fun (_ : Nat) (b : Bd) => !(decide (b.name = nm))) i l).map (·.v) = some v ∧ v.kind.toNat = z.v.kind.toNat
 | [], [], _, _, _, z, hz, _ => by cases hz
 | [], _ :: _, _, h, _, _, _, _ => by cases h
 | _ :: _, [], _, h, _, _, _, _ => by cases h
 | a :: r, b :: s, i, h, hn, z, hz, he => by
  rw [EP, Bool.and_eq_true] at h
  rw [List.map_cons, List.nodup_cons] at hn
  have h1 := h.1
  unfold U9 at h1
  simp only [Bool.and_eq_true, decide_eq_true_eq] at h1
  rcases List.mem_cons.1 hz with rfl | hz
  ·refine ⟨a.v, ?_, by omega⟩
   rw [ffN, if_neg (by simp [h1.1.1, he])]; rfl
  ·have hne : ¬ a.name = nm := fun e => hn.1 (by rw [← h1.1.1, e, ← he]; exact List.mem_map_of_mem hz)
   rw [ffN, if_pos (by simp [hne])]
   exact bD h.2 hn.2 z hz he
theorem ZQ {t : Tk} {vars : List Bd} (hv : EP vars m.vars = true) {k : List UInt8} (hk : k ∈ DN m c t) : (FU c k t.born vars).2 = 0 ∧ (FU c k t.born vars).1.via = k := by
 obtain ⟨_, x, hx, _, he⟩ := gJ R Z (.inl hk)
 unfold FU
 split
 ·exact ⟨rfl, rfl⟩
 ·split
  ·rename_i h2
   rw [he] at h2 ⊢
   have h8 := R.eight x hx
   unfold LG at h8
   rw [h2] at h8
   simp only [Bool.not_true, Bool.false_or, List.any_eq_true] at h8
   obtain ⟨z, hz, h81⟩ := h8
   unfold M5 at h81
   simp only [Bool.and_eq_true, decide_eq_true_eq] at h81
   obtain ⟨v, hv1, hv2⟩ := bD (i := 0) hv R.vars z hz h81.1
   have hf : Q7 vars x.key = some v := hv1
   rw [hf]
   rw [if_neg (by simp), if_neg (by simp only [Option.getD_some, Bool.not_eq_true', decide_eq_false_iff_not, Decidable.not_not]; omega)]
   exact ⟨rfl, rfl⟩
  ·exact ⟨rfl, rfl⟩
theorem ZS {t : Tk} {vars : List Bd} (hv : EP vars m.vars = true) : ∀ l : List (List UInt8), (∀ k ∈ l, k ∈ DN m c t) → U7 c t vars l = none
 | [], _ => rfl
 | k :: r, h => by
  rw [U7, if_neg (by rw [(ZQ R Z hv (h k List.mem_cons_self)).1]; decide)]
  exact ZS hv r fun q hq => h q (List.mem_cons_of_mem _ hq)
theorem gG {t : Tk} {vars : List Bd} (hv : EP vars m.vars = true) (hp : GE m c t = true) : CN m c t vars = ((DN m c t).map (fun k => (FU c k t.born vars).1), 0) ∧ (CN m c t vars).1.map (·.via) = DN m c t := by
 have h1 : CN m c t vars = ((DN m c t).map (fun k => (FU c k t.born vars).1), 0) := by
  unfold CN
  rw [if_neg (by simp [hp]), ZS R Z hv _ fun k hk => hk]
 refine ⟨h1, ?_⟩
 rw [h1, List.map_map]
 exact (List.map_congr_left fun k hk => (ZQ R Z hv hk).2).trans (List.map_id _)
omit R Z
end
end
def As.res (b0 b1 : Nat) (F0 : List Nat) (P : World → Prop) : As := ⟨F0 ++ List.range' b0 (b1 - b0), fun w => ∀ w2, (∀ g ∈ F0 ++ List.range' b0 (b1 - b0), g < w.heap.size → w2.heap[g]? = w.heap[g]?) → P w2, fun {w w'} h hb w2 h2 => hb w2 fun g hg hlt => by
 have h3 := h g hg hlt
 have hlt' : g < w'.heap.size := by
  rw [Array.getElem?_eq_getElem hlt] at h3
  exact (Array.getElem?_eq_some_iff.1 h3).1
 exact (h2 g hg hlt').trans h3⟩
theorem Mem.swap2 {w0 w w' : World} {S : Nat → Prop} {a b : As} {Ls : List As} (M : Mem w0 S (a :: b :: Ls) w) (hf : Fr (fun k => k ∈ a.fp ++ b.fp) w w') {P : World → Prop} (hP : ∀ w2, SN w.heap.size (a.fp ++ b.fp) w' w2 → P w2) : Mem w0 S (As.res w.heap.size w'.heap.size (a.fp ++ b.fp) P :: Ls) w' := by
 have M1 := M.gone2 hf
 have hlt : ∀ g ∈ a.fp ++ b.fp, g < w.heap.size ∧ (w0.heap.size ≤ g ∨ S g) := fun g hg => by
  rcases List.mem_append.1 hg with h | h
  ·exact M.lt 0 a rfl g h
  ·exact M.lt 1 b rfl g h
 have h0 : w0.heap.size ≤ w.heap.size := M.fr.size
 have hs : w.heap.size ≤ w'.heap.size := hf.size
 have hfp : ∀ g ∈ (As.res w.heap.size w'.heap.size (a.fp ++ b.fp) P).fp, g ∈ a.fp ++ b.fp ∨ (w.heap.size ≤ g ∧ g < w'.heap.size) := fun g hg => by
  rcases List.mem_append.1 hg with h | h
  ·exact .inl h
  ·rw [List.mem_range'_1] at h
   exact .inr ⟨h.1, by omega⟩
 have hap : ∀ (i : Nat) (x : As), Ls[i]? = some x → ∀ g ∈ x.fp, g ∉ (As.res w.heap.size w'.heap.size (a.fp ++ b.fp) P).fp := fun i x hi g hg h => by
  rcases hfp g h with h | h
  ·rcases List.mem_append.1 h with h | h
   ·exact M.apart 0 (i + 2) a x rfl hi A0 g h hg
   ·exact M.apart 1 (i + 2) b x rfl hi A0 g h hg
  ·have := (M.lt (i + 2) x hi g hg).1
   omega
 refine ⟨M1.fr, fun i x hi => ?_, fun i x hi g hg => ?_, fun i j x y hi hj hne g hg => ?_⟩
 ·cases i with
  | zero =>
   simp only [List.getElem?_cons_zero, Option.some.injEq] at hi; subst hi
   exact fun w2 h2 => hP w2 fun g hg hlt' => h2 g (by
    rcases hg with h | h
    ·exact List.mem_append_left _ h
    ·exact List.mem_append_right _ (by rw [List.mem_range'_1]; omega)) hlt'
  | succ i => exact M1.ok i x hi
 ·cases i with
  | zero =>
   simp only [List.getElem?_cons_zero, Option.some.injEq] at hi; subst hi
   rcases hfp g hg with h | h
   ·have := hlt g h
    exact ⟨by omega, this.2⟩
   ·exact ⟨h.2, .inl A0⟩
  | succ i => exact M1.lt i x hi g hg
 ·cases i with
  | zero =>
   cases j with
   | zero => exact absurd rfl hne
   | succ j =>
    simp only [List.getElem?_cons_zero, Option.some.injEq] at hi; subst hi
    exact fun h => hap j y hj g h hg
  | succ i =>
   cases j with
   | zero =>
    simp only [List.getElem?_cons_zero, Option.some.injEq] at hj; subst hj
    exact hap i x hi g hg
   | succ j => exact M1.apart i j x y hi hj A0 g hg
theorem Mem.resA {w0 w : World} {Ls : List As} {b0 b1 : Nat} {F0 : List Nat} {P : World → Prop} (M : Mem w0 AP Ls w) (i : Nat) (hi : Ls[i]? = some (As.res b0 b1 F0 P)) : ∀ w2, SN w0.heap.size [] w w2 → P w2 := fun w2 h => M.ok i _ hi w2 fun g hg hlt => h g (.inr ((M.lt i _ hi g hg).2.elim id False.elim)) hlt
theorem Y5 {l k : List Bd} (h : EP l k = true) : l.length = k.length := Classical.byContradiction fun hn => by rw [OQ hn] at h; cases h
end Go.Proofs.YtaheakjfkpkefaaGreatDoor
