/- Lemmas that the last text rests on. Condition: each says its own. -/
import Derived.Test.YtjaocmocdhckaaaGreatDoorZMw9
set_option maxHeartbeats 16000000
set_option maxRecDepth 100000
namespace Go.Proofs.YtjaocmocdhckaaaGreatDoor
open Go.RowKit
section
section
variable {m : Md} {c : CrA}
theorem NL {t : Tk} (h : E1 m c t = true) (hl : t.loc = []) : c.isF t.on = true ∧ (t.inc.toNat = 0 ∨ t.inc.toNat = 1) := by
 unfold E1 at h
 rw [if_pos (by simpa using hl)] at h
 split at h <;> simp only [Bool.and_eq_true, Tk.same, decide_eq_true_eq] at h
 ·refine ⟨h.1.1, .inr ?_⟩
  have : (t.inc.toNat : Int) = (1 : Int) := h.2.2.2.2.2.2.2.2.1
  omega
 ·refine ⟨h.1.1, .inl ?_⟩
  have := h.2.2.2.2.2.2.2.2.1
  simpa using this
theorem OO {t : Tk} (h : E1 m c t = true) (hl : ¬ t.loc = []) : c.isA t.loc = true ∧ t.on = [] ∧ (((c.atf t.loc).kind.toNat = 4 ∧ (t.inc.toNat = 0 ∨ t.inc.toNat = 2)) ∨ (((c.atf t.loc).kind.toNat = 3 ∨ (c.atf t.loc).kind.toNat = 7 ∨ (c.atf t.loc).kind.toNat = 8) ∧ t.inc.toNat = 0)) := by
 unfold E1 at h
 rw [if_neg (by simpa using hl)] at h
 split at h
 ·rename_i h4
  have h4 := odt h4
  split at h <;> simp only [Bool.and_eq_true, Tk.same, decide_eq_true_eq] at h
  ·refine ⟨h.1.1.1, h.1.1.2.2.2.1, .inl ⟨by omega, .inr ?_⟩⟩
   have : (t.inc.toNat : Int) = (2 : Int) := h.1.1.2.2.2.2.2.2.2.2.1
   omega
  ·refine ⟨h.1.1.1, h.1.1.2.2.2.1, .inl ⟨by omega, .inl ?_⟩⟩
   have := h.1.1.2.2.2.2.2.2.2.2.1
   simpa using this
 ·split at h
  ·rename_i h8
   have h8 := odt h8
   simp only [Bool.and_eq_true, Tk.same, decide_eq_true_eq] at h
   refine ⟨h.1.1, h.1.2.2.2.1, .inr ⟨.inr (.inr AM), ?_⟩⟩
   have := h.1.2.2.2.2.2.2.2.2.1
   simpa using this
  ·simp only [Bool.and_eq_true, Bool.or_eq_true, Tk.same, decide_eq_true_eq] at h
   refine ⟨h.1.1, h.1.2.2.2.1, .inr ⟨by rcases h.2 with h | h <;> omega, ?_⟩⟩
   have := h.1.2.2.2.2.2.2.2.2.1
   simpa using this
theorem oD {i : In} {next k : Int} {b1 : Bool} {j : Nat} {y : Tk} (h : KH m c i next k b1 j y = true) : b1 = true ∧ (E1 m c y = true ∧ IO y k = true ∧ 1 ≤ y.id ∧ y.id ≤ next) ∧ (j = 0 ∨ UK i j < y.id) := by
 unfold KH at h
 split at h
 ·rename_i h1
  split at h
  ·rename_i h2
   split at h
   ·rename_i h3
    split at h
    ·split at h
     ·rename_i h5
      split at h
      ·rename_i h6; exact ⟨h1, ⟨h6, h, odt h2, odt h3⟩, .inl (by have := odt h5; omega)⟩
      ·cases h
     ·split at h
      ·rename_i h5
       split at h
       ·rename_i h6; exact ⟨h1, ⟨h6, h, odt h2, odt h3⟩, .inr (odt h5)⟩
       ·cases h
      ·cases h
    ·cases h
   ·cases h
  ·cases h
 ·cases h
theorem P5 {i : In} {next k : Int} {b0 : Bool} : ∀ {j : Nat}, PU m c i next k b0 j = true → b0 = true ∧ ∀ q y, q < j → i.toks[q]? = some y → (E1 m c y = true ∧ IO y k = true ∧ 1 ≤ y.id ∧ y.id ≤ next) ∧ (q = 0 ∨ UK i q < y.id)
 | 0, h => ⟨h, fun q y hq => absurd hq (Nat.not_lt_zero _)⟩
 | j + 1, h => by
  rw [PU] at h
  cases hj : i.toks[j]? with
  | none =>
   rw [hj] at h
   obtain ⟨h1, h2⟩ := P5 h
   refine ⟨h1, fun q y hq hy => ?_⟩
   by_cases hqj : q = j
   ·subst hqj; rw [hj] at hy; cases hy
   ·exact h2 q y AM hy
  | some y0 =>
   rw [hj] at h
   have h9 := oD h
   obtain ⟨h1, h2⟩ := P5 h9.1
   refine ⟨h1, fun q y hq hy => ?_⟩
   by_cases hqj : q = j
   ·subst hqj; rw [hj] at hy; injection hy with hy; subst hy; exact h9.2
   ·exact h2 q y AM hy
theorem oE {i : In} {next k : Int} (h : MG m i next k = true) : 0 ≤ next ∧ next ≤ 2147483647 ∧ 0 ≤ k ∧ k ≤ 1099511627776 ∧ i.mdl = m.id ∧ HO i.vars m.vars = true := by
 have h0 : HZ m i next k = true := by
  cases hc : HZ m i next k with
  | true => rfl
  | false => unfold MG at h; rw [hc] at h; simp at h
 unfold HZ at h0
 split at h0
 ·rename_i hc
  simp only [Bool.and_eq_true, decide_eq_true_eq] at hc
  obtain ⟨⟨⟨⟨⟨⟨a1, a2⟩, a3⟩, a4⟩, a5⟩, _⟩, _⟩ := hc
  exact ⟨a1, a2, a3, a4, a5, h0⟩
 ·cases h0
theorem MH {i : In} {next k : Int} (h : GD m c i next k = true) : (0 ≤ next ∧ next ≤ 2147483647 ∧ 0 ≤ k ∧ k ≤ 1099511627776 ∧ i.mdl = m.id ∧ HO i.vars m.vars = true) ∧ ∀ y ∈ i.toks, E1 m c y = true ∧ IO y k = true ∧ 1 ≤ y.id ∧ y.id ≤ next := by
 unfold GD at h
 rw [Bool.and_eq_true] at h
 obtain ⟨h1, h2⟩ := P5 h.1
 refine ⟨oE h1, fun y hy => ?_⟩
 obtain ⟨q, hq, he⟩ := List.mem_iff_getElem.1 hy
 exact (h2 q y hq (by rw [List.getElem?_eq_getElem hq, he])).1
theorem NX {i : In} {next k : Int} (h : GD m c i next k = true) : ∀ (d q : Nat) (y z : Tk), i.toks[q]? = some y → i.toks[q + 1 + d]? = some z → y.id < z.id := by
 unfold GD at h
 rw [Bool.and_eq_true] at h
 have h2 := (P5 h.1).2
 have one : ∀ (q : Nat) (y z : Tk), i.toks[q]? = some y → i.toks[q + 1]? = some z → y.id < z.id := fun q y z hy hz => by
  rcases (h2 (q + 1) z (List.getElem?_eq_some_iff.1 hz).1 hz).2 with h3 | h3
  ·omega
  ·unfold UK at h3
   rw [Nat.add_sub_cancel, hy] at h3
   exact h3
 intro d
 induction d with
 | zero => exact one
 | succ d ih =>
  intro q y z hy hz
  have hlt : q + 1 + d < i.toks.length := by have := (List.getElem?_eq_some_iff.1 hz).1; omega
  have hx : i.toks[q + 1 + d]? = some i.toks[q + 1 + d] := List.getElem?_eq_getElem hlt
  have h3 := ih q y _ hy hx
  have h4 := one (q + 1 + d) _ z hx hz
  omega
theorem SD {i : In} {next k : Int} (h : GD m c i next k = true) {q r : Nat} {y z : Tk} (hy : i.toks[q]? = some y) (hz : i.toks[r]? = some z) (he : y.id = z.id) : q = r := by
 rcases Nat.lt_trichotomy q r with hlt | h0 | hlt
 ·have := NX h (r - (q + 1)) q y z hy (by rw [show q + 1 + (r - (q + 1)) = r by omega]; exact hz)
  omega
 ·exact h0
 ·have := NX h (q - (r + 1)) r z y hz (by rw [show r + 1 + (q - (r + 1)) = q by omega]; exact hy)
  omega
variable (R : Rl m)
include R
theorem UW {x : El} (hx : x ∈ m.els) (h7 : x.kind.toNat = 7) {f : Fl} (hf : f ∈ m.fls) (hfx : f.frm = x.id) : ∃ y ∈ m.els, y.id = f.tg ∧ y.kind.toNat = 8 := by
 obtain ⟨y, hy, hyi, _⟩ := R.ends hf
 refine ⟨y, hy, hyi, ?_⟩
 have h4 := R.four x hx
 unfold IS at h4
 rw [if_neg (by simp [h7]), if_neg (by simp [h7]), if_neg (by simp [h7]), if_pos (by simp [h7])] at h4
 split at h4
 ·have h5 : NS m f = false := by
   cases hq : NS m f with
   | false => rfl
   | true =>
    rw [Bool.not_eq_true', List.any_eq_false] at h4
    exact absurd hq (h4 f (List.mem_filter.2 ⟨hf, by simp [hfx]⟩))
  unfold NS at h5
  rw [← hyi, S4 R.els hy] at h5
  simp only [Bool.or_eq_false_iff, Bool.not_eq_false', decide_eq_true_eq] at h5
  have := h5.1
  simp only [Option.getD_some] at this
  omega
 ·cases h4
variable (Z : Cz m c)
include Z
theorem WG {k : List UInt8} (h0 : (c.atf k).kind.toNat ≠ 0) (h2 : (c.atf k).kind.toNat ≠ 2) : 0 < (c.outs k).length ∧ ∃ x ∈ m.els, x.id = k ∧ c.atf k = x := by
 rcases XO m k with ⟨x, hx, rfl⟩ | h
 ·rw [LG R Z hx] at h2
  exact ⟨GZ R Z hx h2, x, hx, rfl, LG R Z hx⟩
 ·rw [Z.eA, (U2 h).1] at h0; exact absurd rfl h0
theorem LR {t : Tk} {via : List UInt8} (hv : via ∈ E7 m c t ∨ ((c.atf t.loc).kind.toNat = 4 ∧ via = t.loc)) : 0 < (c.outs via).length ∧ ∃ x ∈ m.els, x.id = via ∧ c.atf via = x := by
 rcases hv with hv | ⟨h4, rfl⟩
 ·unfold E7 at hv
  split at hv
  ·cases hv
  ·rcases List.mem_append.1 hv with hv | hv
   ·unfold W6 at hv
    split at hv
    ·rename_i hk
     simp only [Bool.or_eq_true, decide_eq_true_eq] at hk
     rw [List.mem_singleton] at hv
     rw [hv]
     exact WG R Z AM AM
    ·split at hv
     ·rename_i hk
      have hk := odt hk
      obtain ⟨k, hk2, rfl⟩ := List.mem_map.1 hv
      obtain ⟨f, hf, rfl, hfr, x, hx, hxi⟩ := KG R Z hk2
      rw [(TX R Z hf).1]
      have hk7 : x.kind.toNat = 7 := by rw [← hxi, LG R Z hx] at hk; omega
      obtain ⟨y, hy, hyi, hy8⟩ := UW R hx hk7 hf (by rw [hfr, hxi])
      rw [← hyi]
      exact ⟨GZ R Z hy AM, y, hy, rfl, LG R Z hy⟩
     ·cases hv
   ·obtain ⟨k, _, hk⟩ := List.mem_flatMap.1 hv
    unfold DS at hk
    obtain ⟨x, hx, rfl⟩ := List.mem_map.1 hk
    obtain ⟨hx1, hx2⟩ := List.mem_filter.1 hx
    simp only [Bool.and_eq_true, decide_eq_true_eq] at hx2
    exact ⟨GZ R Z hx1 AM, x, hx1, rfl, LG R Z hx1⟩
 ·exact WG R Z AM AM
theorem SA {t : Tk} {via : List UInt8} (hp : E1 m c t = true) (ho : (DO m c t via).2.2 = true) : c.isF (DO m c t via).1 = true ∧ (DO m c t via).2.1.length ≤ 1 := by
 have hin : ∀ via, ¬ (!(List.any (E7 m c t) (fun z => decide (via = z)))) = true → via ∈ E7 m c t := fun via h => by
  simp only [Bool.not_eq_true', Bool.not_eq_false, List.any_eq_true, decide_eq_true_eq] at h
  obtain ⟨z, hz, rfl⟩ := h; exact hz
 generalize hE : DO m c t via = e at ho ⊢
 unfold DO at hE
 split at hE
 ·rename_i hc
  simp only [Bool.and_eq_true, decide_eq_true_eq] at hc
  subst hE
  have hl : t.loc = [] := Classical.byContradiction fun hl => by
   have := (OO hp hl).2.2
   omega
  refine ⟨?_, Nat.zero_le _⟩
  show c.isF via = true
  rw [hc.2]; exact (NL hp hl).1
 ·split at hE
  ·rename_i hc
   simp only [Bool.and_eq_true, decide_eq_true_eq] at hc
   subst hE
   exact ⟨JU R Z (HW (LR R Z (.inr ⟨by omega, hc.2⟩)).1), Nat.le_refl _⟩
  ·split at hE
   ·subst hE; cases ho
   ·rename_i hn
    split at hE
    ·subst hE
     exact ⟨JU R Z (HW (LR R Z (.inl (hin _ hn))).1), Nat.le_refl _⟩
    ·subst hE
     exact ⟨JU R Z (HW (LR R Z (.inl (hin _ hn))).1), Nat.le_refl _⟩
omit R Z
end
end
open Tryz
def ixT (tid : Int) (l : List Tk) : Int := ixJ (fun (_ : Nat) (t : Tk) => decide (t.id = tid)) 0 l
theorem nM {p : Tk → Bool} {l : List Tk} : ∀ (i : Nat), 0 ≤ ixJ (fun (_ : Nat) (b : Tk) => p b) i l → ∃ j a, ixJ (fun (_ : Nat) (b : Tk) => p b) i l = ((i + j : Nat) : Int) ∧ l[j]? = some a := by
 induction l with
 | nil => intro i h; simp [ixJ] at h
 | cons b r ih =>
  intro i h
  unfold ixJ at h ⊢
  by_cases hb : p b = true
  ·exact ⟨0, b, by rw [if_pos hb]; rfl, rfl⟩
  ·rw [if_neg hb] at h ⊢
   obtain ⟨j, a, h1, h2⟩ := ih (i + 1) h
   exact ⟨j + 1, a, by rw [h1]; congr 1; omega, by simpa using h2⟩
theorem iU {tid : Int} {l : List Tk} (h : ¬ ixT tid l < 0) : ∃ j y, ixT tid l = ((j : Nat) : Int) ∧ l[j]? = some y := by
 obtain ⟨j, a, h1, h2⟩ := nM (p := fun t => decide (t.id = tid)) 0 (Int.not_lt.1 h)
 exact ⟨j, a, by unfold ixT; rw [h1, Nat.zero_add], h2⟩
def CmY (m : Md) (c : CrA) (i : In) (tid : Int) (via : List UInt8) (next clock : Int) (j : Nat) (y : Tk) : Prop := GD m c i next clock = true ∧ ixT tid i.toks = ((j : Nat) : Int) ∧ i.toks[j]? = some y ∧ (DO m c y via).2.2 = true
def As.res (b0 b1 : Nat) (F0 : List Nat) (P : World → Prop) : As := ⟨F0 ++ List.range' b0 (b1 - b0), fun w => ∀ w2, (∀ g ∈ F0 ++ List.range' b0 (b1 - b0), g < w.heap.size → w2.heap[g]? = w.heap[g]?) → P w2, fun {w w'} h hb w2 h2 => hb w2 fun g hg hlt => by
 have h3 := h g hg hlt
 have hlt' : g < w'.heap.size := by
  rw [Array.getElem?_eq_getElem hlt] at h3
  exact (Array.getElem?_eq_some_iff.1 h3).1
 exact (h2 g hg hlt').trans h3⟩
theorem Mem.swap2 {w0 w w' : World} {S : Nat → Prop} {a b : As} {Ls : List As} (M : Mem w0 S (a :: b :: Ls) w) (hf : Fr (fun k => k ∈ a.fp ++ b.fp) w w') {P : World → Prop} (hP : ∀ w2, SP w.heap.size (a.fp ++ b.fp) w' w2 → P w2) : Mem w0 S (As.res w.heap.size w'.heap.size (a.fp ++ b.fp) P :: Ls) w' := by
 have M1 := M.gone2 hf
 have hlt : ∀ g ∈ a.fp ++ b.fp, g < w.heap.size ∧ (w0.heap.size ≤ g ∨ S g) := fun g hg => by
  rcases List.mem_append.1 hg with h | h
  ·exact M.lt 0 a rfl g h
  ·exact M.lt 1 b rfl g h
 have h0 : w0.heap.size ≤ w.heap.size := M.fr.size
 have hs : w.heap.size ≤ w'.heap.size := hf.size
 have hfp : ∀ g ∈ (As.res w.heap.size w'.heap.size (a.fp ++ b.fp) P).fp, g ∈ a.fp ++ b.fp ∨ (w.heap.size ≤ g ∧ g < w'.heap.size) := fun g hg => by
  rcases List.mem_append.1 hg with h | h
  ·exact .inl h
  ·rw [List.mem_range'_1] at h
   exact .inr ⟨h.1, by omega⟩
 have hap : ∀ (i : Nat) (x : As), Ls[i]? = some x → ∀ g ∈ x.fp, g ∉ (As.res w.heap.size w'.heap.size (a.fp ++ b.fp) P).fp := fun i x hi g hg h => by
  rcases hfp g h with h | h
  ·rcases List.mem_append.1 h with h | h
   ·exact M.apart 0 (i + 2) a x rfl hi AM g h hg
   ·exact M.apart 1 (i + 2) b x rfl hi AM g h hg
  ·have := (M.lt (i + 2) x hi g hg).1
   omega
 refine ⟨M1.fr, fun i x hi => ?_, fun i x hi g hg => ?_, fun i j x y hi hj hne g hg => ?_⟩
 ·cases i with
  | zero =>
   simp only [List.getElem?_cons_zero, Option.some.injEq] at hi; subst hi
   exact fun w2 h2 => hP w2 fun g hg hlt' => h2 g (by
    rcases hg with h | h
    ·exact List.mem_append_left _ h
    ·exact List.mem_append_right _ (by rw [List.mem_range'_1]; omega)) hlt'
  | succ i => exact M1.ok i x hi
 ·cases i with
  | zero =>
   simp only [List.getElem?_cons_zero, Option.some.injEq] at hi; subst hi
   rcases hfp g hg with h | h
   ·have := hlt g h
    exact ⟨by omega, this.2⟩
   ·exact ⟨h.2, .inl AM⟩
  | succ i => exact M1.lt i x hi g hg
 ·cases i with
  | zero =>
   cases j with
   | zero => exact absurd rfl hne
   | succ j =>
    simp only [List.getElem?_cons_zero, Option.some.injEq] at hi; subst hi
    exact fun h => hap j y hj g h hg
  | succ i =>
   cases j with
   | zero =>
    simp only [List.getElem?_cons_zero, Option.some.injEq] at hj; subst hj
    exact hap i x hi g hg
   | succ j => exact M1.apart i j x y hi hj AM g hg
theorem Mem.resA {w0 w : World} {Ls : List As} {b0 b1 : Nat} {F0 : List Nat} {P : World → Prop} (M : Mem w0 B0 Ls w) (i : Nat) (hi : Ls[i]? = some (As.res b0 b1 F0 P)) : ∀ w2, SP w0.heap.size [] w w2 → P w2 := fun w2 h => M.ok i _ hi w2 fun g hg hlt => h g (.inr ((M.lt i _ hi g hg).2.elim id False.elim)) hlt
theorem R4 {l k : List Bd} (h : HO l k = true) : l.length = k.length := Classical.byContradiction fun hn => by rw [PA hn] at h; cases h
theorem bV {m : Md} {c : CrA} (R : Rl m) (Z : Cz m c) {t : Tk} (hp : E1 m c t = true) : t.loc.length ≤ 4611686018427387903 := by
 by_cases hl : t.loc = []
 ·rw [hl]; decide
 ·have h := (OO hp hl).1
  rw [Z.eB] at h
  obtain ⟨x, hx, he⟩ := qN h
  have := (HJ (R.elN x hx)).2
  rw [he] at this; omega
theorem aI (m : Md) (gc : Nat) (c : CrA) (F : List Nat) (i : In) (V T : Option Addr) (vc tc : Nat) (tid : Int) (via : List UInt8) (next clock : Int) (w : World) (ho : MdOk m) (R : Rl m) (hC : CourseN w m gc c F) (htl : i.toks.length ≤ 300) (hok : BdOk i.vars) (hwk : ∀ t ∈ i.toks, (t.worker.length : Int) < 4611686018427387904) (hvia : via.length ≤ 4611686018427387903) (hV : Rd w V (i.vars.length * 5) (AH Bd.cells i.vars)) (hT : Rd w T (i.toks.length * 9) (AH Tk.cells i.toks)) (hY : Lay0 w) :
 Calls prog 8 #[pg gc, .agg (In.cells i V T vc tc).toArray, AJ tid, str via, AJ next, AJ clock] w fun e w' => Fr0 w w' ∧ ((e = .returned (.tuple #[.agg zMvd.toArray, AJ 1]) ∧ ∀ j y, ¬ CmY m c i tid via next clock j y) ∨ ∃ j y, CmY m c i tid via next clock j y ∧ ∀ w2, SP w.heap.size [] w' w2 → MvD m c i (i.toks.eraseIdx j) (DO m c y via).1 (DO m c y via).2.1 next clock e w2) := by
 have Z := hC.cz
 have hil : ∀ q, (c.ins q).length ≤ 400 := fun q => (V4 R Z q).2
 refine C5 func8 ntmps8 rfl fun M => srg (CR M rfl rfl fun g7 w1 hg7 M => E3 M (AA rfl) rfl rfl 3 rfl rfl ([AJ tid]) rfl fun g8 w2 hg8 M => DC M rfl G4 fun g12 w3 hg12 M => AY rfl (AF (AQ rfl ?_)))
 refine CW M 2 rfl rfl underlying29 EN rfl (BM rfl rfl (D4 M 23 rfl rfl call9 (XH m gc c F i V T vc tc next clock _ ho (hC.fr0 M.fr) hil AM hok hwk (hV.fr0 M.fr) (hT.fr0 M.fr) (hY.fr0 M.fr)) fun w4 M => AY rfl (AQ rfl (DA rfl rfl (nq (AL rfl (fun h25 => ?_) (fun h25 => ?_)))))))
 ·refine srg (ya rfl (BA (parts := []) rfl rfl (G8)) (yb rfl (C4 M 0 rfl rfl C6 rfl fun w5 M => yb rfl (gnr (AB (B9 rfl rfl (M.rdBlk 0 rfl rfl) underlying38 rfl C6 rfl ?_))))))
  have hck : ¬ GD m c i next clock = true := fun hn => by rw [if_pos hn] at h25; cases h25
  rw [if_neg hck]
  exact ⟨M.fr, .inl ⟨rfl, fun j y h => hck h.1⟩⟩
 ·have h25p := (odt (BQ h25))
  have hck : GD m c i next clock = true := Classical.byContradiction fun hn => by rw [if_neg hn] at h25; cases h25
  obtain ⟨⟨hn1, hn2, _, _, _, hvE⟩, htk⟩ := MH hck
  have hvl : i.vars.length ≤ 1000 := by rw [R4 hvE]; have := R.lens.2.2; omega
  refine AI (AD (AQ rfl (BC M 2 rfl rfl rfl (ya rfl (DE (us := []) (vs := [pg g8]) rfl rfl rfl) (cl 31 rfl (AP rfl rfl call20) (nU Tk.cells Tk.len T tc i.toks AM 21 [pg g8] (fun (_ : Nat) (t : Tk) => decide (t.id = tid)) B0 (fun _ _ => True) _ (GN call21 (fun x _ w9 hf9 => kF g8 tid x w9 ((M.blk 1 rfl).fr0 hf9))) (fun _ hf9 => (hT.fr0 M.fr).fr0 hf9) trivial) ?_)))))
  rintro _ w6 ⟨rfl, _, hfw6⟩
  refine ⟨AJ (ixT tid i.toks), rfl, ?_⟩
  have M := M.step hfw6
  refine AY rfl (AF (AQ rfl (CF rfl rfl (nq (AL rfl (fun h33 => ?_) (fun h33 => ?_))))))
  ·have h33p := (odt h33)
   exact srg (ya rfl (BA (parts := []) rfl rfl (G8)) (C4 M 0 rfl rfl C6 rfl fun w7 M => yb rfl (gnr (AB (B9 rfl rfl (M.rdBlk 0 rfl rfl) underlying38 rfl C6 rfl ⟨M.fr, .inl ⟨rfl, fun j y h => by have := h.2.1; omega⟩⟩)))))
  ·have h33p := (odf h33)
   obtain ⟨j, y, hj, hy⟩ := iU h33p
   have hjl : j < i.toks.length := (List.getElem?_eq_some_iff.1 hy).1
   have hym : y ∈ i.toks := List.mem_of_getElem? hy
   rw [hj]
   obtain ⟨b_y, o_y, hA_y⟩ := BI (k := 9) AM (hT.fr0 M.fr) hy
   refine AI (AD (AQ rfl (yb rfl (BC M 2 rfl rfl rfl (yb rfl (ya rfl (B1 j hA_y rfl rfl rfl (sl rfl) AM) (ya rfl (AU rfl rfl (BV Tk.len (hT.fr0 M.fr) hA_y hy) underlying43 rfl BD) (yb rfl (cl 43 rfl (AP rfl rfl call22) (kE m gc c F y via _ ho (hC.fr0 M.fr) hvia (bV R Z (htk y hym).1) (fun h => (LR R Z h).1)) ?_)))))))))
   rintro _ w8 ⟨Af, cf, rfl, how8, hfw8⟩
   refine ⟨_, rfl, ?_⟩
   have M := M.pushOwn hfw8 (Nat.le_refl _) how8
   iterate 7 refine yb rfl ?_
   refine nq (AF (AQ rfl (AY rfl (AL rfl (fun h48 => ?_) (fun h48 => ?_)))))
   ·have h48p := (CK h48)
    refine srg (ya rfl (BA (parts := []) rfl rfl (G8)) (C4 M 1 rfl rfl C6 rfl fun w9 M => yb rfl (gnr (AB (B9 rfl rfl (M.rdBlk 1 rfl rfl) underlying38 rfl C6 rfl ?_)))))
    exact ⟨M.fr, .inl ⟨rfl, fun j2 y2 h => by
     obtain ⟨_, h2, h3, h4⟩ := h
     have : j2 = j := by omega
     subst this
     rw [hy] at h3; injection h3 with h3; subst h3
     rw [h4] at h48; cases h48⟩⟩
   ·have h48p := (BQ h48)
    refine AI (AD (AF (CV 16 (fun w' => Mem w B0 [As.blk g12 38 [AJ 0, str [], .int .u8 0, .slice none 0 0, .slice none 0 0, AJ 0, .slice none 0 0], As.blk g8 3 [AJ tid], As.blk g7 29 (In.cells i V T vc tc)] w') CZ ?_)))
    have M := M.drew
    refine oc 0 16 rfl rfl (M.pk [1, 2, 3]) (oa 1 16 rfl rfl (M.pk [1, 2, 3]) (fun _ M => AU (xs := In.cells i V T vc tc) rfl rfl (M.rdBlk 2 rfl rfl) underlying29 rfl EN) (oc 2 16 rfl rfl (M.pk [1, 2, 3]) (ol 3 16 rfl rfl rfl (M.pk [1, 2, 3]) (fun _ M => (M.cell 2 rfl rfl)) (oc 5 16 rfl rfl (M.pk [1, 2, 3]) (oc 6 16 rfl rfl (M.pk [1, 2, 3]) (oa 7 16 rfl rfl (M.pk [1, 2, 3]) (fun _ M => BO rfl rfl rfl AM) (oc 9 16 rfl rfl (M.pk [1, 2, 3]) (oc 10 16 rfl rfl (M.pk [1, 2, 3]) (oc 11 16 rfl rfl (M.pk [1, 2, 3]) (oc 12 16 rfl rfl (M.pk [1, 2, 3]) (C7 4 (some 54) gkr rfl (AA rfl) rfl rfl (AP rfl rfl call25) (o8 T tc i.toks _ AM (hT.fr0 M.fr)) ?_)))))))))))
    rintro _ w10 ⟨A54, c54, rfl, how10, hfw10⟩
    refine ⟨_, rfl, fun _ => (M.pk [1, 2, 3]).step hfw10, ?_⟩
    have M := M.pushOwn hfw10 (Nat.le_refl _) how10
    have hL54 := M.ownLen 0 rfl
    refine C7 8 (some 58) gkr rfl (AA rfl) rfl rfl (AP rfl rfl call24) (s9 _ A54 c54 j i.toks _ (M.own 0 rfl) hjl) ?_
    rintro _ w11 ⟨rfl, how11, hfw11⟩
    have M := M.upd 0 rfl hfw11 (As.own _ 43 9 (.slice A54 (i.toks.eraseIdx j).length c54) (i.toks.eraseIdx j).length (AH Tk.cells (i.toks.eraseIdx j))) how11 (fun g hg => .inl (gW g hg))
    refine ⟨_, rfl, fun _ => (M.pk [2, 3, 4]), ?_⟩
    have M2 := M.pk [1, 0, 2, 3, 4]
    refine C7 13 (some 63) gkr rfl (AA rfl) rfl rfl (AP rfl rfl call23) (WL w m gc c F i V T A54 Af vc tc c54 cf _ _ (i.toks.eraseIdx j) (DO m c y via).1 (DO m c y via).2.1 next clock _ _ ho R hvl hok hV hY hC M.fr M2.new2 (fun t ht hl => (NL (htk t (List.mem_of_mem_eraseIdx ht)).1 hl).1) (SA R Z (htk y hym).1 (BQ h48)).1 (by have := List.length_eraseIdx_of_lt hjl; omega) (by have := (SA R Z (htk y hym).1 (BQ h48)).2; omega) hn1 hn2 M2.self2) ?_
    rintro e9 w12 ⟨hfw12, hres⟩
    have M := M2.swap2 hfw12 hres
    obtain ⟨a0, a1, a2, W0, wn, wc, X0, xn, xc, a5, Y0, yn, yc, er, rfl, her⟩ := MvD.shape (hres _ fun _ _ _ => rfl)
    refine ⟨_, rfl, fun _ => (M.pk [1, 2, 3]), ?_⟩
    refine oc 14 16 rfl rfl (M.pk [1, 2, 3]) (oc 15 16 rfl rfl (M.pk [1, 2, 3]) (BB 16 none gkr rfl (AA rfl) rfl rfl (fun ρ hρ => C2 38 _ _ rfl g12 0 38 _ ([AJ a0, str a1, .int .u8 a2, .slice W0 wn wc, .slice X0 xn xc, AJ a5, .slice Y0 yn yc]) (hρ _ _ rfl) (hρ _ _ rfl) (M.blk 1 rfl) C6 (BS rfl) (BP rfl)) ?_))
    rintro _ w13 ⟨rfl, hbw13, hfw13⟩
    replace M : Mem w B0 (List.set _ 1 (As.blk g12 38 [AJ a0, str a1, .int .u8 a2, .slice W0 wn wc, .slice X0 xn xc, AJ a5, .slice Y0 yn yc])) w13 := M.putB 1 rfl hbw13 hfw13
    exact ⟨fun h => absurd h BU, fo1 17 rfl rfl (yp rfl) (fdn (AD (BN (B9 rfl rfl (M.rdBlk 1 rfl rfl) underlying38 rfl C6 rfl ⟨M.fr, .inr ⟨j, y, ⟨hck, hj, hy, BQ h48⟩, M.resA 0 rfl⟩⟩))))⟩
end Go.Proofs.YtjaocmocdhckaaaGreatDoor
