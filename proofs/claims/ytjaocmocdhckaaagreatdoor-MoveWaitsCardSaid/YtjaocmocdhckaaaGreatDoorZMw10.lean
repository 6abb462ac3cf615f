/- Lemmas that the last text rests on. Condition: each says its own. -/
import Derived.Test.YtjaocmocdhckaaaGreatDoorZMw9
set_option maxHeartbeats 16000000
set_option maxRecDepth 100000
namespace Go.Proofs.YtjaocmocdhckaaaGreatDoor
open Go.RowKit
section
section
variable {m : Md} {c : CrA}
theorem KG {t : Tk} (h : EO m c t = true) (hl : t.loc = []) : c.isF t.on = true ∧ (t.inc.toNat = 0 ∨ t.inc.toNat = 1) := by
 unfold EO at h
 rw [if_pos (by simpa using hl)] at h
 split at h <;> simp only [Bool.and_eq_true, Tk.same, decide_eq_true_eq] at h
 ·refine ⟨h.1.1, .inr ?_⟩
  have : (t.inc.toNat : Int) = (1 : Int) := h.2.2.2.2.2.2.2.2.1
  omega
 ·refine ⟨h.1.1, .inl ?_⟩
  have := h.2.2.2.2.2.2.2.2.1
  simpa using this
theorem L9 {t : Tk} (h : EO m c t = true) (hl : ¬ t.loc = []) : c.isA t.loc = true ∧ t.on = [] ∧ (((c.atf t.loc).kind.toNat = 4 ∧ (t.inc.toNat = 0 ∨ t.inc.toNat = 2)) ∨ (((c.atf t.loc).kind.toNat = 3 ∨ (c.atf t.loc).kind.toNat = 7 ∨ (c.atf t.loc).kind.toNat = 8) ∧ t.inc.toNat = 0)) := by
 unfold EO at h
 rw [if_neg (by simpa using hl)] at h
 split at h
 ·rename_i h4
  have h4 := odt h4
  split at h <;> simp only [Bool.and_eq_true, Tk.same, decide_eq_true_eq] at h
  ·refine ⟨h.1.1.1, h.1.1.2.2.2.1, .inl ⟨by omega, .inr ?_⟩⟩
   have : (t.inc.toNat : Int) = (2 : Int) := h.1.1.2.2.2.2.2.2.2.2.1
   omega
  ·refine ⟨h.1.1.1, h.1.1.2.2.2.1, .inl ⟨by omega, .inl ?_⟩⟩
   have := h.1.1.2.2.2.2.2.2.2.2.1
   simpa using this
 ·split at h
  ·rename_i h8
   have h8 := odt h8
   simp only [Bool.and_eq_true, Tk.same, decide_eq_true_eq] at h
   refine ⟨h.1.1, h.1.2.2.2.1, .inr ⟨.inr (.inr AO), ?_⟩⟩
   have := h.1.2.2.2.2.2.2.2.2.1
   simpa using this
  ·simp only [Bool.and_eq_true, Bool.or_eq_true, Tk.same, decide_eq_true_eq] at h
   refine ⟨h.1.1, h.1.2.2.2.1, .inr ⟨by rcases h.2 with h | h <;> omega, ?_⟩⟩
   have := h.1.2.2.2.2.2.2.2.2.1
   simpa using this
theorem nG {i : In} {next k : Int} {b1 : Bool} {j : Nat} {y : Tk} (h : MK m c i next k b1 j y = true) : b1 = true ∧ (EO m c y = true ∧ MY y k = true ∧ 1 ≤ y.id ∧ y.id ≤ next) ∧ (j = 0 ∨ aZ i j < y.id) := by
 unfold MK at h
 split at h
 ·rename_i h1
  split at h
  ·rename_i h2
   split at h
   ·rename_i h3
    split at h
    ·split at h
     ·rename_i h5
      split at h
      ·rename_i h6; exact ⟨h1, ⟨h6, h, odt h2, odt h3⟩, .inl (by have := odt h5; omega)⟩
      ·cases h
     ·split at h
      ·rename_i h5
       split at h
       ·rename_i h6; exact ⟨h1, ⟨h6, h, odt h2, odt h3⟩, .inr (odt h5)⟩
       ·cases h
      ·cases h
    ·cases h
   ·cases h
  ·cases h
 ·cases h
theorem Q6 {i : In} {next k : Int} {b0 : Bool} : ∀ {j : Nat}, XW m c i next k b0 j = true → b0 = true ∧ ∀ q y, q < j → i.toks[q]? = some y → (EO m c y = true ∧ MY y k = true ∧ 1 ≤ y.id ∧ y.id ≤ next) ∧ (q = 0 ∨ aZ i q < y.id)
 | 0, h => ⟨h, fun q y hq => absurd hq (Nat.not_lt_zero _)⟩
 | j + 1, h => by
  rw [XW] at h
  cases hj : i.toks[j]? with
  | none =>
   rw [hj] at h
   obtain ⟨h1, h2⟩ := Q6 h
   refine ⟨h1, fun q y hq hy => ?_⟩
   by_cases hqj : q = j
   ·subst hqj; rw [hj] at hy; cases hy
   ·exact h2 q y AO hy
  | some y0 =>
   rw [hj] at h
   have h9 := nG h
   obtain ⟨h1, h2⟩ := Q6 h9.1
   refine ⟨h1, fun q y hq hy => ?_⟩
   by_cases hqj : q = j
   ·subst hqj; rw [hj] at hy; injection hy with hy; subst hy; exact h9.2
   ·exact h2 q y AO hy
theorem nH {i : In} {next k : Int} (h : P1 m i next k = true) : 0 ≤ next ∧ next ≤ 2147483647 ∧ 0 ≤ k ∧ k ≤ 1099511627776 ∧ i.mdl = m.id ∧ FZ i.vars m.vars = true := by
 have h0 : JE m i next k = true := by
  cases hc : JE m i next k with
  | true => rfl
  | false => unfold P1 at h; rw [hc] at h; simp at h
 unfold JE at h0
 split at h0
 ·rename_i hc
  simp only [Bool.and_eq_true, decide_eq_true_eq] at hc
  obtain ⟨⟨⟨⟨⟨⟨a1, a2⟩, a3⟩, a4⟩, a5⟩, _⟩, _⟩ := hc
  exact ⟨a1, a2, a3, a4, a5, h0⟩
 ·cases h0
theorem RR {i : In} {next k : Int} (h : GZ m c i next k = true) : (0 ≤ next ∧ next ≤ 2147483647 ∧ 0 ≤ k ∧ k ≤ 1099511627776 ∧ i.mdl = m.id ∧ FZ i.vars m.vars = true) ∧ ∀ y ∈ i.toks, EO m c y = true ∧ MY y k = true ∧ 1 ≤ y.id ∧ y.id ≤ next := by
 unfold GZ at h
 rw [Bool.and_eq_true] at h
 obtain ⟨h1, h2⟩ := Q6 h.1
 refine ⟨nH h1, fun y hy => ?_⟩
 obtain ⟨q, hq, he⟩ := List.mem_iff_getElem.1 hy
 exact (h2 q y hq (by rw [List.getElem?_eq_getElem hq, he])).1
theorem RQ {i : In} {next k : Int} (h : GZ m c i next k = true) : ∀ (d q : Nat) (y z : Tk), i.toks[q]? = some y → i.toks[q + 1 + d]? = some z → y.id < z.id := by
 unfold GZ at h
 rw [Bool.and_eq_true] at h
 have h2 := (Q6 h.1).2
 have one : ∀ (q : Nat) (y z : Tk), i.toks[q]? = some y → i.toks[q + 1]? = some z → y.id < z.id := fun q y z hy hz => by
  rcases (h2 (q + 1) z (List.getElem?_eq_some_iff.1 hz).1 hz).2 with h3 | h3
  ·omega
  ·unfold aZ at h3
   rw [Nat.add_sub_cancel, hy] at h3
   exact h3
 intro d
 induction d with
 | zero => exact one
 | succ d ih =>
  intro q y z hy hz
  have hlt : q + 1 + d < i.toks.length := by have := (List.getElem?_eq_some_iff.1 hz).1; omega
  have hx : i.toks[q + 1 + d]? = some i.toks[q + 1 + d] := List.getElem?_eq_getElem hlt
  have h3 := ih q y _ hy hx
  have h4 := one (q + 1 + d) _ z hx hz
  omega
theorem XY {i : In} {next k : Int} (h : GZ m c i next k = true) {q r : Nat} {y z : Tk} (hy : i.toks[q]? = some y) (hz : i.toks[r]? = some z) (he : y.id = z.id) : q = r := by
 rcases Nat.lt_trichotomy q r with hlt | h0 | hlt
 ·have := RQ h (r - (q + 1)) q y z hy (by rw [show q + 1 + (r - (q + 1)) = r by omega]; exact hz)
  omega
 ·exact h0
 ·have := RQ h (q - (r + 1)) r z y hz (by rw [show r + 1 + (q - (r + 1)) = q by omega]; exact hy)
  omega
variable (R : Rl m)
include R
theorem mX {x : El} (hx : x ∈ m.els) (h7 : x.kind.toNat = 7) {f : Fl} (hf : f ∈ m.fls) (hfx : f.frm = x.id) : ∃ y ∈ m.els, y.id = f.tg ∧ y.kind.toNat = 8 := by
 obtain ⟨y, hy, hyi, _⟩ := R.ends hf
 refine ⟨y, hy, hyi, ?_⟩
 have h4 := R.four x hx
 unfold J0 at h4
 rw [if_neg (by simp [h7]), if_neg (by simp [h7]), if_neg (by simp [h7]), if_pos (by simp [h7])] at h4
 split at h4
 ·have h5 : N8 m f = false := by
   cases hq : N8 m f with
   | false => rfl
   | true =>
    rw [Bool.not_eq_true', List.any_eq_false] at h4
    exact absurd hq (h4 f (List.mem_filter.2 ⟨hf, by simp [hfx]⟩))
  unfold N8 at h5
  rw [← hyi, iW R.els hy] at h5
  simp only [Bool.or_eq_false_iff, Bool.not_eq_false', decide_eq_true_eq] at h5
  have := h5.1
  simp only [Option.getD_some] at this
  omega
 ·cases h4
variable (Z : Cz m c)
include Z
theorem QW {k : List UInt8} (h0 : (c.atf k).kind.toNat ≠ 0) (h2 : (c.atf k).kind.toNat ≠ 2) : 0 < (c.outs k).length ∧ ∃ x ∈ m.els, x.id = k ∧ c.atf k = x := by
 rcases ZQ m k with ⟨x, hx, rfl⟩ | h
 ·rw [T6 R Z hx] at h2
  exact ⟨I6 R Z hx h2, x, hx, rfl, T6 R Z hx⟩
 ·rw [Z.eA, (WT h).1] at h0; exact absurd rfl h0
theorem JR {t : Tk} {via : List UInt8} (hv : via ∈ DK m c t ∨ ((c.atf t.loc).kind.toNat = 4 ∧ via = t.loc)) : 0 < (c.outs via).length ∧ ∃ x ∈ m.els, x.id = via ∧ c.atf via = x := by
 rcases hv with hv | ⟨h4, rfl⟩
 ·unfold DK at hv
  split at hv
  ·cases hv
  ·rcases List.mem_append.1 hv with hv | hv
   ·unfold VD at hv
    split at hv
    ·rename_i hk
     simp only [Bool.or_eq_true, decide_eq_true_eq] at hk
     rw [List.mem_singleton] at hv
     rw [hv]
     exact QW R Z AO AO
    ·split at hv
     ·rename_i hk
      have hk := odt hk
      obtain ⟨k, hk2, rfl⟩ := List.mem_map.1 hv
      obtain ⟨f, hf, rfl, hfr, x, hx, hxi⟩ := OY R Z hk2
      rw [(j0 R Z hf).1]
      have hk7 : x.kind.toNat = 7 := by rw [← hxi, T6 R Z hx] at hk; omega
      obtain ⟨y, hy, hyi, hy8⟩ := mX R hx hk7 hf (by rw [hfr, hxi])
      rw [← hyi]
      exact ⟨I6 R Z hy AO, y, hy, rfl, T6 R Z hy⟩
     ·cases hv
   ·obtain ⟨k, _, hk⟩ := List.mem_flatMap.1 hv
    unfold DP at hk
    obtain ⟨x, hx, rfl⟩ := List.mem_map.1 hk
    obtain ⟨hx1, hx2⟩ := List.mem_filter.1 hx
    simp only [Bool.and_eq_true, decide_eq_true_eq] at hx2
    exact ⟨I6 R Z hx1 AO, x, hx1, rfl, T6 R Z hx1⟩
 ·exact QW R Z AO AO
theorem RN {t : Tk} {via : List UInt8} (hp : EO m c t = true) (ho : (DD m c t via).2.2 = true) : c.isF (DD m c t via).1 = true ∧ (DD m c t via).2.1.length ≤ 1 := by
 have hin : ∀ via, ¬ (!(List.any (DK m c t) (fun z => decide (via = z)))) = true → via ∈ DK m c t := fun via h => by
  simp only [Bool.not_eq_true', Bool.not_eq_false, List.any_eq_true, decide_eq_true_eq] at h
  obtain ⟨z, hz, rfl⟩ := h; exact hz
 generalize hE : DD m c t via = e at ho ⊢
 unfold DD at hE
 split at hE
 ·rename_i hc
  simp only [Bool.and_eq_true, decide_eq_true_eq] at hc
  subst hE
  have hl : t.loc = [] := Classical.byContradiction fun hl => by
   have := (L9 hp hl).2.2
   omega
  refine ⟨?_, Nat.zero_le _⟩
  show c.isF via = true
  rw [hc.2]; exact (KG hp hl).1
 ·split at hE
  ·rename_i hc
   simp only [Bool.and_eq_true, decide_eq_true_eq] at hc
   subst hE
   exact ⟨JD R Z (K0 (JR R Z (.inr ⟨by omega, hc.2⟩)).1), Nat.le_refl _⟩
  ·split at hE
   ·subst hE; cases ho
   ·rename_i hn
    split at hE
    ·subst hE
     exact ⟨JD R Z (K0 (JR R Z (.inl (hin _ hn))).1), Nat.le_refl _⟩
    ·subst hE
     exact ⟨JD R Z (K0 (JR R Z (.inl (hin _ hn))).1), Nat.le_refl _⟩
omit R Z in
theorem ZB {nm : List UInt8} : ∀ {l k : List Bd} {i : Nat}, FZ l k = true → (k.map (·.name)).Nodup → ∀ z ∈ k, z.name = nm → ∃ v, (ffN (fun (_ : Nat) (b : Bd) => !(decide (b.name = nm))) i l).map (·.v) = some v ∧ v.kind.toNat = z.v.kind.toNat
 | [], [], _, _, _, z, hz, _ => by cases hz
 | [], _ :: _, _, h, _, _, _, _ => by cases h
 | _ :: _, [], _, h, _, _, _, _ => by cases h
 | a :: r, b :: s, i, h, hn, z, hz, he => by
  rw [FZ, Bool.and_eq_true] at h
  rw [List.map_cons, List.nodup_cons] at hn
  have h1 := h.1
  unfold TJ at h1
  simp only [Bool.and_eq_true, decide_eq_true_eq] at h1
  rcases List.mem_cons.1 hz with rfl | hz
  ·refine ⟨a.v, ?_, by omega⟩
   rw [ffN, if_neg (by simp [h1.1.1, he])]; rfl
  ·have hne : ¬ a.name = nm := fun e => hn.1 (by rw [← h1.1.1, e, ← he]; exact List.mem_map_of_mem hz)
   rw [ffN, if_pos (by simp [hne])]
   exact ZB h.2 hn.2 z hz he
theorem YD {t : Tk} {vars : List Bd} (hv : FZ vars m.vars = true) {k : List UInt8} (hk : k ∈ DK m c t) : (GH c k t.born vars).2 = 0 ∧ (GH c k t.born vars).1.via = k := by
 obtain ⟨_, x, hx, _, he⟩ := JR R Z (.inl hk)
 unfold GH
 split
 ·exact ⟨rfl, rfl⟩
 ·split
  ·rename_i h2
   rw [he] at h2 ⊢
   have h8 := R.eight x hx
   unfold LT at h8
   rw [h2] at h8
   simp only [Bool.not_true, Bool.false_or, List.any_eq_true] at h8
   obtain ⟨z, hz, h81⟩ := h8
   unfold MB at h81
   simp only [Bool.and_eq_true, decide_eq_true_eq] at h81
   obtain ⟨v, hv1, hv2⟩ := ZB (i := 0) hv R.vars z hz h81.1
   have hf : LN vars x.key = some v := hv1
   rw [hf]
   rw [if_neg (by simp), if_neg (by simp only [Option.getD_some, Bool.not_eq_true', decide_eq_false_iff_not, Decidable.not_not]; omega)]
   exact ⟨rfl, rfl⟩
  ·exact ⟨rfl, rfl⟩
theorem YF {t : Tk} {vars : List Bd} (hv : FZ vars m.vars = true) : ∀ l : List (List UInt8), (∀ k ∈ l, k ∈ DK m c t) → TI c t vars l = none
 | [], _ => rfl
 | k :: r, h => by
  rw [TI, if_neg (by rw [(YD R Z hv (h k List.mem_cons_self)).1]; decide)]
  exact YF hv r fun q hq => h q (List.mem_cons_of_mem _ hq)
theorem QB {t : Tk} {vars : List Bd} (hv : FZ vars m.vars = true) (hp : EO m c t = true) : DY m c t vars = ((DK m c t).map (fun k => (GH c k t.born vars).1), 0) ∧ (DY m c t vars).1.map (·.via) = DK m c t := by
 have h1 : DY m c t vars = ((DK m c t).map (fun k => (GH c k t.born vars).1), 0) := by
  unfold DY
  rw [if_neg (by simp [hp]), YF R Z hv _ fun k hk => hk]
 refine ⟨h1, ?_⟩
 rw [h1, List.map_map]
 exact (List.map_congr_left fun k hk => (YD R Z hv hk).2).trans (List.map_id _)
omit R Z
theorem T8 {t : Tk} {via : List UInt8} (hv : via ∈ DK m c t) : (DD m c t via).2.2 = true := by
 unfold DD
 split
 ·rfl
 ·split
  ·rfl
  ·split
   ·rename_i h
    simp only [Bool.not_eq_true', List.any_eq_false, decide_eq_true_eq] at h
    exact absurd rfl (h _ hv)
   ·split <;> rfl
theorem j9 {t : Tk} {via : List UInt8} (hi : t.inc.toNat = 1) (hv : via = t.on) : (DD m c t via).2.2 = true := by
 unfold DD
 rw [if_pos (by simp [hi, hv])]
theorem jB {t : Tk} {via : List UInt8} (h4 : (c.atf t.loc).kind.toNat = 4) (hi : t.inc.toNat = 0) (hv : via = t.loc) : (DD m c t via).2.2 = true := by
 unfold DD
 rw [if_neg (by simp [hi]), if_pos (by simp [h4, hi, hv])]
theorem aE (R : Rl m) (Z : Cz m c) {t : Tk} (hp : EO m c t = true) (hl : ¬ t.loc = []) (h4 : (c.atf t.loc).kind.toNat ≠ 4) : DK m c t ≠ [] := by
 have h := (L9 hp hl).2.2
 unfold DK
 rw [if_neg (by simpa using hl)]
 intro he
 have he := (List.append_eq_nil_iff.1 he).1
 unfold VD at he
 split at he
 ·cases he
 ·rename_i hc
  simp only [Bool.or_eq_true, decide_eq_true_eq, not_or] at hc
  have h7 : (c.atf t.loc).kind.toNat = 7 := by omega
  rw [if_pos (by simp [h7])] at he
  have := List.length_pos_iff.1 (QW R Z (k := t.loc) AO AO).1
  exact this (List.map_eq_nil_iff.1 he)
end
end
open Tryz
def ixT (tid : Int) (l : List Tk) : Int := ixJ (fun (_ : Nat) (t : Tk) => decide (t.id = tid)) 0 l
theorem mM {p : Tk → Bool} {l : List Tk} : ∀ (i : Nat), 0 ≤ ixJ (fun (_ : Nat) (b : Tk) => p b) i l → ∃ j a, ixJ (fun (_ : Nat) (b : Tk) => p b) i l = ((i + j : Nat) : Int) ∧ l[j]? = some a := by
 induction l with
 | nil => intro i h; simp [ixJ] at h
 | cons b r ih =>
  intro i h
  unfold ixJ at h ⊢
  by_cases hb : p b = true
  ·exact ⟨0, b, by rw [if_pos hb]; rfl, rfl⟩
  ·rw [if_neg hb] at h ⊢
   obtain ⟨j, a, h1, h2⟩ := ih (i + 1) h
   exact ⟨j + 1, a, by rw [h1]; congr 1; omega, by simpa using h2⟩
theorem pB {tid : Int} {l : List Tk} (h : ¬ ixT tid l < 0) : ∃ j y, ixT tid l = ((j : Nat) : Int) ∧ l[j]? = some y := by
 obtain ⟨j, a, h1, h2⟩ := mM (p := fun t => decide (t.id = tid)) 0 (Int.not_lt.1 h)
 exact ⟨j, a, by unfold ixT; rw [h1, Nat.zero_add], h2⟩
def CmY (m : Md) (c : CrA) (i : In) (tid : Int) (via : List UInt8) (next clock : Int) (j : Nat) (y : Tk) : Prop := GZ m c i next clock = true ∧ ixT tid i.toks = ((j : Nat) : Int) ∧ i.toks[j]? = some y ∧ (DD m c y via).2.2 = true
def As.res (b0 b1 : Nat) (F0 : List Nat) (P : World → Prop) : As := ⟨F0 ++ List.range' b0 (b1 - b0), fun w => ∀ w2, (∀ g ∈ F0 ++ List.range' b0 (b1 - b0), g < w.heap.size → w2.heap[g]? = w.heap[g]?) → P w2, fun {w w'} h hb w2 h2 => hb w2 fun g hg hlt => by
 have h3 := h g hg hlt
 have hlt' : g < w'.heap.size := by
  rw [Array.getElem?_eq_getElem hlt] at h3
  exact (Array.getElem?_eq_some_iff.1 h3).1
 exact (h2 g hg hlt').trans h3⟩
theorem Mem.swap2 {w0 w w' : World} {S : Nat → Prop} {a b : As} {Ls : List As} (M : Mem w0 S (a :: b :: Ls) w) (hf : Fr (fun k => k ∈ a.fp ++ b.fp) w w') {P : World → Prop} (hP : ∀ w2, cT w.heap.size (a.fp ++ b.fp) w' w2 → P w2) : Mem w0 S (As.res w.heap.size w'.heap.size (a.fp ++ b.fp) P :: Ls) w' := by
 have M1 := M.gone2 hf
 have hlt : ∀ g ∈ a.fp ++ b.fp, g < w.heap.size ∧ (w0.heap.size ≤ g ∨ S g) := fun g hg => by
  rcases List.mem_append.1 hg with h | h
  ·exact M.lt 0 a rfl g h
  ·exact M.lt 1 b rfl g h
 have h0 : w0.heap.size ≤ w.heap.size := M.fr.size
 have hs : w.heap.size ≤ w'.heap.size := hf.size
 have hfp : ∀ g ∈ (As.res w.heap.size w'.heap.size (a.fp ++ b.fp) P).fp, g ∈ a.fp ++ b.fp ∨ (w.heap.size ≤ g ∧ g < w'.heap.size) := fun g hg => by
  rcases List.mem_append.1 hg with h | h
  ·exact .inl h
  ·rw [List.mem_range'_1] at h
   exact .inr ⟨h.1, by omega⟩
 have hap : ∀ (i : Nat) (x : As), Ls[i]? = some x → ∀ g ∈ x.fp, g ∉ (As.res w.heap.size w'.heap.size (a.fp ++ b.fp) P).fp := fun i x hi g hg h => by
  rcases hfp g h with h | h
  ·rcases List.mem_append.1 h with h | h
   ·exact M.apart 0 (i + 2) a x rfl hi AO g h hg
   ·exact M.apart 1 (i + 2) b x rfl hi AO g h hg
  ·have := (M.lt (i + 2) x hi g hg).1
   omega
 refine ⟨M1.fr, fun i x hi => ?_, fun i x hi g hg => ?_, fun i j x y hi hj hne g hg => ?_⟩
 ·cases i with
  | zero =>
   simp only [List.getElem?_cons_zero, Option.some.injEq] at hi; subst hi
   exact fun w2 h2 => hP w2 fun g hg hlt' => h2 g (by
    rcases hg with h | h
    ·exact List.mem_append_left _ h
    ·exact List.mem_append_right _ (by rw [List.mem_range'_1]; omega)) hlt'
  | succ i => exact M1.ok i x hi
 ·cases i with
  | zero =>
   simp only [List.getElem?_cons_zero, Option.some.injEq] at hi; subst hi
   rcases hfp g hg with h | h
   ·have := hlt g h
    exact ⟨by omega, this.2⟩
   ·exact ⟨h.2, .inl AO⟩
  | succ i => exact M1.lt i x hi g hg
 ·cases i with
  | zero =>
   cases j with
   | zero => exact absurd rfl hne
   | succ j =>
    simp only [List.getElem?_cons_zero, Option.some.injEq] at hi; subst hi
    exact fun h => hap j y hj g h hg
  | succ i =>
   cases j with
   | zero =>
    simp only [List.getElem?_cons_zero, Option.some.injEq] at hj; subst hj
    exact hap i x hi g hg
   | succ j => exact M1.apart i j x y hi hj AO g hg
theorem Mem.resA {w0 w : World} {Ls : List As} {b0 b1 : Nat} {F0 : List Nat} {P : World → Prop} (M : Mem w0 AV Ls w) (i : Nat) (hi : Ls[i]? = some (As.res b0 b1 F0 P)) : ∀ w2, cT w0.heap.size [] w w2 → P w2 := fun w2 h => M.ok i _ hi w2 fun g hg hlt => h g (.inr ((M.lt i _ hi g hg).2.elim id False.elim)) hlt
theorem QG {l k : List Bd} (h : FZ l k = true) : l.length = k.length := Classical.byContradiction fun hn => by rw [OI hn] at h; cases h
theorem aY {m : Md} {c : CrA} (R : Rl m) (Z : Cz m c) {t : Tk} (hp : EO m c t = true) : t.loc.length ≤ 4611686018427387903 := by
 by_cases hl : t.loc = []
 ·rw [hl]; decide
 ·have h := (L9 hp hl).1
  rw [Z.eB] at h
  obtain ⟨x, hx, he⟩ := gZ h
  have := (HD (R.elN x hx)).2
  rw [he] at this; omega
theorem ZJ (m : Md) (gc : Nat) (c : CrA) (F : List Nat) (i : In) (V T : Option Addr) (vc tc : Nat) (tid : Int) (via : List UInt8) (next clock : Int) (w : World) (ho : MdOk m) (R : Rl m) (hC : CourseN w m gc c F) (htl : i.toks.length ≤ 300) (hok : BdOk i.vars) (hwk : ∀ t ∈ i.toks, (t.worker.length : Int) < 4611686018427387904) (hvia : via.length ≤ 4611686018427387903) (hV : Rd w V (i.vars.length * 5) (AK Bd.cells i.vars)) (hT : Rd w T (i.toks.length * 9) (AK Tk.cells i.toks)) (hY : Lay0 w) :
 Calls prog 8 #[pg gc, .agg (In.cells i V T vc tc).toArray, .int .i64 tid, str via, .int .i64 next, .int .i64 clock] w fun e w' => Fr0 w w' ∧ ((e = .returned (.tuple #[.agg zMvd.toArray, .int .i64 1]) ∧ ∀ j y, ¬ CmY m c i tid via next clock j y) ∨ ∃ j y, CmY m c i tid via next clock j y ∧ ∀ w2, cT w.heap.size [] w' w2 → MvD m c i (i.toks.eraseIdx j) (DD m c y via).1 (DD m c y via).2.1 next clock e w2) := by
 have Z := hC.cz
 have hil : ∀ q, (c.ins q).length ≤ 400 := fun q => (UD R Z q).2
 refine C2 func8 ntmps8 rfl fun M => srg (CN M rfl rfl fun g7 w1 hg7 M => DX M (AF rfl) rfl rfl 3 rfl rfl ([.int .i64 tid]) rfl fun g8 w2 hg8 M => D6 M rfl ER fun g12 w3 hg12 M => yb rfl (nq (AD (srg (yb rfl ?_)))))
 refine CR M 2 rfl rfl underlying29 E8 rfl (yb rfl (yb rfl (D1 M 23 rfl rfl call9 (WM m gc c F i V T vc tc next clock _ ho (hC.fr0 M.fr) hil AO hok hwk (hV.fr0 M.fr) (hT.fr0 M.fr) (hY.fr0 M.fr)) fun w4 M => yb rfl (AC (AA (AD (AB (yb rfl (D4 rfl rfl (AC (AA (AN rfl (fun h25 => ?_) (fun h25 => ?_)))))))))))))
 ·refine srg (ya rfl (B9 (parts := []) rfl rfl (G3)) (yb rfl (C1 M 0 rfl rfl BT rfl fun w5 M => yb rfl (nq (AI (AE (B8 rfl rfl (M.rdBlk 0 rfl rfl) underlying38 rfl BT rfl ?_)))))))
  have hck : ¬ GZ m c i next clock = true := fun hn => by rw [if_pos hn] at h25; cases h25
  rw [if_neg hck]
  exact ⟨M.fr, .inl ⟨rfl, fun j y h => hck h.1⟩⟩
 ·have h25p := (odt (BM h25))
  have hck : GZ m c i next clock = true := Classical.byContradiction fun hn => by rw [if_neg hn] at h25; cases h25
  obtain ⟨⟨hn1, hn2, _, _, _, hvE⟩, htk⟩ := RR hck
  have hvl : i.vars.length ≤ 1000 := by rw [QG hvE]; have := R.lens.2.2; omega
  refine AL (AA (srg (yb rfl (BA M 2 rfl rfl rfl (ya rfl (D9 (us := []) (vs := [pg g8]) rfl rfl rfl) (cl 31 rfl (AQ rfl rfl call20) (mU Tk.cells Tk.len T tc i.toks AO 21 [pg g8] (fun (_ : Nat) (t : Tk) => decide (t.id = tid)) AV (fun _ _ => True) _ (GI call21 (fun x _ w9 hf9 => jD g8 tid x w9 ((M.blk 1 rfl).fr0 hf9))) (fun _ hf9 => (hT.fr0 M.fr).fr0 hf9) trivial) ?_))))))
  rintro _ w6 ⟨rfl, _, hfw6⟩
  refine ⟨.int .i64 (ixT tid i.toks), rfl, ?_⟩
  have M := M.step hfw6
  refine yb rfl (AC (AA (AD (AD (AB (yb rfl (CB rfl rfl (AC (AA (AN rfl (fun h33 => ?_) (fun h33 => ?_)))))))))))
  ·have h33p := (odt h33)
   exact srg (ya rfl (B9 (parts := []) rfl rfl (G3)) (C1 M 0 rfl rfl BT rfl fun w7 M => yb rfl (nq (AI (AE (B8 rfl rfl (M.rdBlk 0 rfl rfl) underlying38 rfl BT rfl ⟨M.fr, .inl ⟨rfl, fun j y h => by have := h.2.1; omega⟩⟩))))))
  ·have h33p := (odf h33)
   obtain ⟨j, y, hj, hy⟩ := pB h33p
   have hjl : j < i.toks.length := (List.getElem?_eq_some_iff.1 hy).1
   have hym : y ∈ i.toks := List.mem_of_getElem? hy
   rw [hj]
   obtain ⟨b_y, o_y, hA_y⟩ := BI (k := 9) AO (hT.fr0 M.fr) hy
   refine AL (AA (srg (yb rfl (yb rfl (BA M 2 rfl rfl rfl (yb rfl (ya rfl (B1 j hA_y rfl rfl rfl (sl rfl) AO) (ya rfl (AT rfl rfl (BQ Tk.len (hT.fr0 M.fr) hA_y hy) underlying43 rfl BB) (yb rfl (cl 43 rfl (AQ rfl rfl call22) (jA m gc c F y via _ ho (hC.fr0 M.fr) hvia (aY R Z (htk y hym).1) (fun h => (JR R Z h).1)) ?_))))))))))
   rintro _ w8 ⟨Af, cf, rfl, how8, hfw8⟩
   refine ⟨_, rfl, ?_⟩
   have M := M.pushOwn hfw8 (Nat.le_refl _) how8
   iterate 7 refine yb rfl ?_
   refine AC (AA (AD (AD (AB (yb rfl (yb rfl (AC (AA (AN rfl (fun h48 => ?_) (fun h48 => ?_))))))))))
   ·have h48p := (CE h48)
    refine srg (ya rfl (B9 (parts := []) rfl rfl (G3)) (C1 M 1 rfl rfl BT rfl fun w9 M => yb rfl (nq (AI (AE (B8 rfl rfl (M.rdBlk 1 rfl rfl) underlying38 rfl BT rfl ?_))))))
    exact ⟨M.fr, .inl ⟨rfl, fun j2 y2 h => by
     obtain ⟨_, h2, h3, h4⟩ := h
     have : j2 = j := by omega
     subst this
     rw [hy] at h3; injection h3 with h3; subst h3
     rw [h4] at h48; cases h48⟩⟩
   ·have h48p := (BM h48)
    refine AL (AA (AD (CO 16 (fun w' => Mem w AV [As.blk g12 38 [.int .i64 0, str [], .int .u8 0, .slice none 0 0, .slice none 0 0, .int .i64 0, .slice none 0 0], As.blk g8 3 [.int .i64 tid], As.blk g7 29 (In.cells i V T vc tc)] w') CU ?_)))
    have M := M.drew
    refine oc 0 16 rfl rfl (M.pk [1, 2, 3]) (oa 1 16 rfl rfl (M.pk [1, 2, 3]) (fun _ M => AT (xs := In.cells i V T vc tc) rfl rfl (M.rdBlk 2 rfl rfl) underlying29 rfl E8) (oc 2 16 rfl rfl (M.pk [1, 2, 3]) (ol 3 16 rfl rfl rfl (M.pk [1, 2, 3]) (fun _ M => (M.cell 2 rfl rfl)) (oc 5 16 rfl rfl (M.pk [1, 2, 3]) (oc 6 16 rfl rfl (M.pk [1, 2, 3]) (oa 7 16 rfl rfl (M.pk [1, 2, 3]) (fun _ M => BF rfl rfl rfl AO) (oc 9 16 rfl rfl (M.pk [1, 2, 3]) (oc 10 16 rfl rfl (M.pk [1, 2, 3]) (oc 11 16 rfl rfl (M.pk [1, 2, 3]) (oc 12 16 rfl rfl (M.pk [1, 2, 3]) (C0 4 (some 54) gkr rfl (AF rfl) rfl rfl (AQ rfl rfl call25) (nD T tc i.toks _ AO (hT.fr0 M.fr)) ?_)))))))))))
    rintro _ w10 ⟨A54, c54, rfl, how10, hfw10⟩
    refine ⟨_, rfl, fun _ => (M.pk [1, 2, 3]).step hfw10, ?_⟩
    have M := M.pushOwn hfw10 (Nat.le_refl _) how10
    have hL54 := M.ownLen 0 rfl
    refine C0 8 (some 58) gkr rfl (AF rfl) rfl rfl (AQ rfl rfl call24) (qV _ A54 c54 j i.toks _ (M.own 0 rfl) hjl) ?_
    rintro _ w11 ⟨rfl, how11, hfw11⟩
    have M := M.upd 0 rfl hfw11 (As.own _ 43 9 (.slice A54 (i.toks.eraseIdx j).length c54) (i.toks.eraseIdx j).length (AK Tk.cells (i.toks.eraseIdx j))) how11 (fun g hg => .inl (fM g hg))
    refine ⟨_, rfl, fun _ => (M.pk [2, 3, 4]), ?_⟩
    have M2 := M.pk [1, 0, 2, 3, 4]
    refine C0 13 (some 63) gkr rfl (AF rfl) rfl rfl (AQ rfl rfl call23) (VR w m gc c F i V T A54 Af vc tc c54 cf _ _ (i.toks.eraseIdx j) (DD m c y via).1 (DD m c y via).2.1 next clock _ _ ho R hvl hok hV hY hC M.fr M2.new2 (fun t ht hl => (KG (htk t (List.mem_of_mem_eraseIdx ht)).1 hl).1) (RN R Z (htk y hym).1 (BM h48)).1 (by have := List.length_eraseIdx_of_lt hjl; omega) (by have := (RN R Z (htk y hym).1 (BM h48)).2; omega) hn1 hn2 M2.self2) ?_
    rintro e9 w12 ⟨hfw12, hres⟩
    have M := M2.swap2 hfw12 hres
    obtain ⟨a0, a1, a2, W0, wn, wc, X0, xn, xc, a5, Y0, yn, yc, er, rfl, her⟩ := MvD.shape (hres _ fun _ _ _ => rfl)
    refine ⟨_, rfl, fun _ => (M.pk [1, 2, 3]), ?_⟩
    refine oc 14 16 rfl rfl (M.pk [1, 2, 3]) (oc 15 16 rfl rfl (M.pk [1, 2, 3]) (B7 16 none gkr rfl (AF rfl) rfl rfl (fun ρ hρ => BZ 38 _ _ rfl g12 0 38 _ ([.int .i64 a0, str a1, .int .u8 a2, .slice W0 wn wc, .slice X0 xn xc, .int .i64 a5, .slice Y0 yn yc]) (hρ _ _ rfl) (hρ _ _ rfl) (M.blk 1 rfl) BT (BO rfl) (BL rfl)) ?_))
    rintro _ w13 ⟨rfl, hbw13, hfw13⟩
    replace M : Mem w AV (List.set _ 1 (As.blk g12 38 [.int .i64 a0, str a1, .int .u8 a2, .slice W0 wn wc, .slice X0 xn xc, .int .i64 a5, .slice Y0 yn yc])) w13 := M.putB 1 rfl hbw13 hfw13
    exact ⟨fun h => absurd h BR, fo1 17 rfl rfl (yp rfl) (fdn (AA (AI (B8 rfl rfl (M.rdBlk 1 rfl rfl) underlying38 rfl BT rfl ⟨M.fr, .inr ⟨j, y, ⟨hck, hj, hy, BM h48⟩, M.resA 0 rfl⟩⟩))))⟩
end Go.Proofs.YtjaocmocdhckaaaGreatDoor
