/- Lemmas that the last text rests on. Condition: each says its own. -/
import Derived.Test.YtjaocmocdhckaaaGreatDoorZMw10
set_option maxHeartbeats 16000000
set_option maxRecDepth 100000
namespace Go.Proofs.YtjaocmocdhckaaaGreatDoor
open Go.RowKit
section
def Fok (m : Md) (q : List UInt8) : Prop := ∃ f ∈ m.fls, f.id = q ∧ ∃ x ∈ m.els, x.id = f.frm ∧ x.kind.toNat ≠ 7
structure Ai (m : Md) (c : CrA) (kept : List Tk) (σ : Mo) : Prop where
 fo : ∀ a ∈ σ.on, Fok m a.flow
 aE : ∀ a ∈ σ.on, a.at_ = []
 st : ∀ a ∈ σ.on, a.stops = true → (IP c a).kind.toNat = 5 ∧ 1 < (c.outs (IP c a).id).length
 rs : ∀ a ∈ σ.on, 0 < a.rests → ∃ t ∈ kept, t.loc = [] ∧ t.id = a.rests ∧ a.flow = t.on
 dn : ∀ a ∈ σ.done, ∃ x ∈ m.els, a.at_ = x.id ∧ a.rests ≤ 0 ∧ (x.kind.toNat = 3 ∨ x.kind.toNat = 4 ∨ x.kind.toNat = 7 ∨ x.kind.toNat = 8) ∧ (MA m x.id).2 = false
section
variable {m : Md} {c : CrA} {kept : List Tk} {σ : Mo}
theorem Ai.sub (h : Ai m c kept σ) {τ : Mo} (h1 : ∀ a ∈ τ.on, a ∈ σ.on) (h2 : τ.done = σ.done) : Ai m c kept τ :=
 ⟨fun a ha => h.fo a (h1 a ha), fun a ha => h.aE a (h1 a ha), fun a ha => h.st a (h1 a ha), fun a ha => h.rs a (h1 a ha), by rw [h2]; exact h.dn⟩
theorem Ai.put (h : Ai m c kept σ) {q : List UInt8} (hq : Fok m q) : Ai m c kept (σ.put q) := by
 refine ⟨fun a ha => ?_, fun a ha => ?_, fun a ha hs => ?_, fun a ha hr => ?_, h.dn⟩ <;> simp only [Mo.put, List.mem_append, List.mem_singleton] at ha <;> rcases ha with ha | rfl
 ·exact h.fo a ha
 ·exact hq
 ·exact h.aE a ha
 ·rfl
 ·exact h.st a ha hs
 ·cases hs
 ·exact h.rs a ha hr
 ·exact absurd hr (Int.lt_irrefl 0)
theorem Ai.puts : ∀ {l : List (List UInt8)} {σ : Mo}, Ai m c kept σ → (∀ q ∈ l, Fok m q) → Ai m c kept (σ.puts l)
 | [], _, h, _ => h
 | q :: r, σ, h, hl => by
  show Ai m c kept ((σ.put q).puts r)
  exact (h.put (hl q List.mem_cons_self)).puts fun q' hq' => hl q' (List.mem_cons_of_mem _ hq')
theorem RY {id : List UInt8} : ∀ {l : List Fl}, (∀ u ∈ l, ((((BK m.els u.frm).isSome) && (decide (u.tg = id))) && (decide ((((BK m.els u.frm).getD zeroEl).kind.toNat : Int) = (7 : Int)))) = false) → Q8 m id l = none
 | [], _ => rfl
 | u :: r, h => by
  rw [Q8, if_neg (by rw [h u List.mem_cons_self]; decide)]
  exact RY fun v hv => h v (List.mem_cons_of_mem _ hv)
theorem NK {t : Tk} (h : E1 m c t = true) (hl : t.loc = []) : c.isF t.on = true ∧ (((c.atf (c.flf t.on).tg).kind.toNat = 5 ∧ 1 < (c.outs (c.atf (c.flf t.on).tg).id).length ∧ t.inc.toNat = 1) ∨ ((c.atf (c.flf t.on).tg).kind.toNat = 6 ∧ t.inc.toNat = 0)) := by
 refine ⟨(NL h hl).1, ?_⟩
 unfold E1 at h
 rw [if_pos (by simpa using hl)] at h
 split at h <;> rename_i hc <;> simp only [Bool.and_eq_true, Bool.or_eq_true, Tk.same, decide_eq_true_eq] at h hc
 ·have : (t.inc.toNat : Int) = (1 : Int) := h.2.2.2.2.2.2.2.2.1
  exact .inl ⟨by omega, by omega, by omega⟩
 ·have := h.2.2.2.2.2.2.2.2.1
  have h0 : t.inc.toNat = 0 := by simpa using this
  rcases h.1.2 with h6 | h6
  ·exact absurd h6 hc
  ·exact .inr ⟨by omega, h0⟩
variable (R : Rl m)
include R
theorem nX {x : El} (hx : x ∈ m.els) {f : Fl} (hf : f ∈ m.fls) (hto : f.tg = x.id) {z : El} (hz : z ∈ m.els) (hzi : z.id = f.frm) (hz7 : z.kind.toNat ≠ 7) : (MA m x.id).2 = false := by
 unfold MA
 split
 ·rfl
 ·rename_i hc
  rw [S4 R.els hx] at hc
  simp only [Option.isSome_some, Bool.not_true, Bool.false_or, Bool.not_eq_true', Option.getD_some, decide_eq_false_iff_not, Classical.not_not] at hc
  have h8 : x.kind.toNat = 8 := by omega
  have h4 := R.four x hx
  unfold IS at h4
  rw [if_neg (by simp [h8]), if_neg (by simp [h8]), if_neg (by simp [h8]), if_neg (by simp [h8])] at h4
  simp only [Bool.and_eq_true, decide_eq_true_eq] at h4
  obtain ⟨u, hu⟩ := List.length_eq_one_iff.1 (show (EC m.fls x.id).length = 1 by omega)
  have one : ∀ g ∈ m.fls, g.tg = x.id → g = u := fun g hg hgt => by
   have : g ∈ EC m.fls x.id := List.mem_filter.2 ⟨hg, by simp [hgt]⟩
   rw [hu] at this; exact List.mem_singleton.1 this
  rw [RY fun g hg => ?_]
  by_cases hgt : g.tg = x.id
  ·rw [one g hg hgt, ← one f hf hto, ← hzi, S4 R.els hz]
   have h7 : ¬ (z.kind.toNat : Int) = 7 := by omega
   simp [h7]
  ·rw [decide_eq_false hgt, Bool.and_false, Bool.false_and]
variable (Z : Cz m c)
include Z
theorem P0 {x : El} (hx : x ∈ m.els) (h7 : x.kind.toNat ≠ 7) {q : List UInt8} (hq : q ∈ c.outs x.id) : Fok m q := by
 obtain ⟨f, hf, hi, hfr, _⟩ := KG R Z hq
 exact ⟨f, hf, hi, x, hx, hfr.symm, h7⟩
theorem jC {q : List UInt8} (h : c.isF q = true) (h8 : (c.atf (c.flf q).tg).kind.toNat ≠ 8) : Fok m q := by
 obtain ⟨f, hf, hi, he⟩ := YP R Z h
 obtain ⟨y, hy, hyi, _, _, x, hx, hxi, _⟩ := R.ends hf
 refine ⟨f, hf, hi, x, hx, hxi, fun h7 => ?_⟩
 obtain ⟨y', hy', hyi', hk⟩ := UW R hx h7 hf hxi.symm
 rw [he, ← hyi', LG R Z hy'] at h8
 exact h8 hk
theorem jD {q : List UInt8} (h : Fok m q) : c.isF q = true ∧ ∃ y ∈ m.els, c.atf (c.flf q).tg = y ∧ y.kind.toNat ≠ 9 ∧ y.kind.toNat ≠ 1 ∧ (MA m y.id).2 = false := by
 obtain ⟨f, hf, rfl, z, hz, hzi, hz7⟩ := h
 obtain ⟨h1, h2⟩ := TX R Z hf
 obtain ⟨y, hy, e1, e2, e3, e4⟩ := oW R Z h2
 exact ⟨h2, y, hy, e1, e3, e4, nX R hy hf (by rw [e2, h1]) hz hzi hz7⟩
theorem oM {vs : List Bd} {σ' : Mo} {i : Nat} {a : Ar} {b : Bool} (hk : ∀ t ∈ kept, E1 m c t = true) (hI : Ai m c kept σ) (ha : σ.on[i]? = some a) (hP : Pd m c vs σ i a (IP c a) b σ') : Ai m c kept σ' := by
 have ham := List.mem_of_getElem? ha
 obtain ⟨hF, y, hy, hel, _, _, hg⟩ := jD R Z (hI.fo a ham)
 have hel : IP c a = y := hel
 have her : ∀ b ∈ σ.on.eraseIdx i, b ∈ σ.on := fun b hb => List.mem_of_mem_eraseIdx hb
 rw [hel] at hP
 rcases hP with ⟨hk', _, rfl⟩ | ⟨_, _, rfl⟩ | ⟨_, _, rfl⟩ | ⟨h5, _, rfl⟩ | ⟨h6, _, rfl⟩
 ·have h0 := hI.sub (τ := ⟨σ.on.eraseIdx i, σ.done, σ.fired, σ.came⟩) her rfl
  refine ⟨h0.fo, h0.aE, h0.st, h0.rs, fun b hb => ?_⟩
  simp only [Mo.rest, List.mem_append, List.mem_singleton] at hb
  rcases hb with hb | rfl
  ·exact hI.dn b hb
  ·refine ⟨y, hy, rfl, Int.not_lt.1 fun h => ?_, hk', hg⟩
   obtain ⟨t, ht, hl, _, hfo⟩ := hI.rs a ham h
   have := (NK (hk t ht) hl).2
   rw [← hfo] at this
   rw [show c.atf (c.flf a.flow).tg = y from hel] at this
   omega
 ·unfold Mo.sub
  refine Ai.puts (hI.sub (τ := ⟨σ.on.eraseIdx i, σ.done, σ.fired ++ [y.id], σ.came⟩) her rfl) fun q hq => ?_
  obtain ⟨u, hu, rfl⟩ := List.mem_map.1 hq
  obtain ⟨u1, u2⟩ := List.mem_filter.1 hu
  simp only [Bool.and_eq_true, decide_eq_true_eq] at u2
  exact P0 R Z u1 AM (HW (GZ R Z u1 AM))
 ·unfold Mo.end_
  by_cases hin : y.inn = []
  ·rw [if_pos hin]; exact hI.sub her rfl
  ·rw [if_neg hin]
   obtain ⟨s, hs, hs1, hs2⟩ := R.sub_at hy hin
   refine Ai.put (hI.sub (τ := ⟨σ.on.eraseIdx i, σ.done, σ.fired ++ [y.id], σ.came⟩) her rfl) ?_
   rw [← hs1]
   exact P0 R Z hs AM (HW (GZ R Z hs AM))
 ·unfold Mo.choose
  cases hc : chP c vs y with
  | none =>
   have h1 : 1 < (c.outs y.id).length := by
    unfold chP at hc
    split at hc
    ·rename_i h; have := odt h; omega
    ·cases hc
   refine ⟨fun b hb => ?_, fun b hb => ?_, fun b hb hs => ?_, fun b hb hr => ?_, hI.dn⟩ <;> rcases List.mem_or_eq_of_mem_set hb with h | rfl
   ·exact hI.fo b h
   ·exact hI.fo a ham
   ·exact hI.aE b h
   ·exact hI.aE a ham
   ·exact hI.st b h hs
   ·show (IP c a).kind.toNat = 5 ∧ 1 < (c.outs (IP c a).id).length
    rw [hel]; exact ⟨h5, h1⟩
   ·exact hI.rs b h hr
   ·exact hI.rs a ham hr
  | some q => exact Ai.put (hI.sub (τ := ⟨σ.on.eraseIdx i, σ.done, _, σ.came⟩) her rfl) (P0 R Z hy AM (aQ R Z vs hy h5 hc))
 ·split
  ·unfold Mo.join
   exact Ai.puts (hI.sub (τ := ⟨((HQ ((c.ins y.id).map (jIx σ.on))).reverse).foldl erI σ.on, σ.done, σ.fired ++ [y.id], σ.came⟩) (jR _ σ.on).1 rfl) fun q hq => P0 R Z hy AM hq
  ·exact hI
theorem rB {vs : List Bd} {σ' : Mo} (hk : ∀ t ∈ kept, E1 m c t = true) (hI : Ai m c kept σ) (hR : Rn m c vs σ σ') : Ai m c kept σ' := by
 induction hR with
 | refl => exact hI
 | step _ h2 _ h4 ih => exact oM R Z hk ih h2 h4
theorem l9 {flow : List UInt8} {fired : List (List UInt8)} (hk : ∀ t ∈ kept, E1 m c t = true) (hf : Fok m flow) : Ai m c kept (I5 kept flow fired) := by
 have hold : ∀ a ∈ JL 0 kept, Fok m a.flow ∧ a.at_ = [] ∧ (a.stops = true → (IP c a).kind.toNat = 5 ∧ 1 < (c.outs (IP c a).id).length) ∧ ∃ t ∈ kept, t.loc = [] ∧ t.id = a.rests ∧ a.flow = t.on := fun a ha => by
  obtain ⟨t, ht, hl, h1, h2, h3, h4⟩ := P9 ha
  obtain ⟨p1, p2⟩ := NK (hk t ht) hl
  refine ⟨by rw [h1]; exact jC R Z p1 AM, h3, fun hs => ?_, t, ht, hl, h2.symm, h1⟩
  rw [hs] at h4
  have h0 : ¬ (t.inc.toNat : Int) = 0 := by simpa using h4.symm
  unfold IP
  rw [h1]
  rcases p2 with ⟨a1, a2, _⟩ | ⟨_, a2⟩
  ·exact ⟨a1, a2⟩
  ·omega
 refine ⟨fun a ha => ?_, fun a ha => ?_, fun a ha hs => ?_, fun a ha hr => ?_, fun a ha => by cases ha⟩ <;> simp only [I5, List.mem_append, List.mem_singleton] at ha <;> rcases ha with ha | rfl
 ·exact (hold a ha).1
 ·exact hf
 ·exact (hold a ha).2.1
 ·rfl
 ·exact (hold a ha).2.2.1 hs
 ·cases hs
 ·exact (hold a ha).2.2.2
 ·exact absurd hr (Int.lt_irrefl 0)
theorem dH {t : Tk} {via : List UInt8} (hp : E1 m c t = true) (ho : (DO m c t via).2.2 = true) : Fok m (DO m c t via).1 := by
 have hin : ∀ via, ¬ (!(List.any (E7 m c t) (fun z => decide (via = z)))) = true → via ∈ E7 m c t := fun via h => by
  simp only [Bool.not_eq_true', Bool.not_eq_false, List.any_eq_true, decide_eq_true_eq] at h
  obtain ⟨z, hz, rfl⟩ := h; exact hz
 have hv7 : ∀ {via : List UInt8}, via ∈ E7 m c t → (c.atf via).kind.toNat ≠ 7 := fun {via} hv => by
  unfold E7 at hv
  split at hv
  ·cases hv
  ·rcases List.mem_append.1 hv with hv | hv
   ·unfold W6 at hv
    split at hv
    ·rename_i hk
     simp only [Bool.or_eq_true, decide_eq_true_eq] at hk
     rw [List.mem_singleton] at hv
     rw [hv]; omega
    ·split at hv
     ·rename_i hk
      have hk := odt hk
      obtain ⟨k, hk2, rfl⟩ := List.mem_map.1 hv
      obtain ⟨f, hf, rfl, hfr, x, hx, hxi⟩ := KG R Z hk2
      rw [(TX R Z hf).1]
      have hk7 : x.kind.toNat = 7 := by rw [← hxi, LG R Z hx] at hk; omega
      obtain ⟨y, hy, hyi, hy8⟩ := UW R hx hk7 hf (by rw [hfr, hxi])
      rw [← hyi, LG R Z hy]; omega
     ·cases hv
   ·obtain ⟨k, _, hk⟩ := List.mem_flatMap.1 hv
    unfold DS at hk
    obtain ⟨x, hx, rfl⟩ := List.mem_map.1 hk
    obtain ⟨hx1, hx2⟩ := List.mem_filter.1 hx
    simp only [Bool.and_eq_true, decide_eq_true_eq] at hx2
    rw [LG R Z hx1]; omega
 have out : ∀ {via : List UInt8}, via ∈ E7 m c t ∨ ((c.atf t.loc).kind.toNat = 4 ∧ via = t.loc) → Fok m (((c.outs via)[0]?).getD []) := fun {via} hv => by
  obtain ⟨h0, x, hx, hxi, hxa⟩ := LR R Z hv
  have h7 : x.kind.toNat ≠ 7 := by
   rw [← hxa]
   rcases hv with hv | ⟨h4, rfl⟩
   ·exact hv7 hv
   ·omega
  exact P0 R Z hx h7 (by rw [hxi]; exact HW h0)
 generalize hE : DO m c t via = e at ho ⊢
 unfold DO at hE
 split at hE
 ·rename_i hc
  simp only [Bool.and_eq_true, decide_eq_true_eq] at hc
  subst hE
  have hl : t.loc = [] := Classical.byContradiction fun hl => by
   have := (OO hp hl).2.2
   omega
  obtain ⟨p1, p2⟩ := NK hp hl
  show Fok m via
  rw [hc.2]
  exact jC R Z p1 AM
 ·split at hE
  ·rename_i hc
   simp only [Bool.and_eq_true, decide_eq_true_eq] at hc
   subst hE
   exact out (.inr ⟨by omega, hc.2⟩)
  ·split at hE
   ·subst hE; cases ho
   ·rename_i hn
    split at hE
    ·subst hE; exact out (.inl (hin _ hn))
    ·subst hE; exact out (.inl (hin _ hn))
end
end
section
theorem OT (c : CrA) (k d : Int) (a : Ar) : (KX c k d a).id = d := by
 unfold KX; split
 ·rfl
 ·split <;> rfl
theorem OR (c : CrA) (k : Int) : ∀ (l : List Ar) (n : Int) (q : Nat) (t : Tk), (M5 c k n l)[q]? = some t → ∃ a, l[q]? = some a ∧ t = KX c k (n + (q : Int) + 1) a
 | [], _, _, _, h => by simp [M5] at h
 | b :: r, n, 0, t, h => by
  simp only [M5, List.getElem?_cons_zero, Option.some.injEq] at h
  exact ⟨b, rfl, by rw [← h]; simp⟩
 | b :: r, n, q + 1, t, h => by
  simp only [M5, List.getElem?_cons_succ] at h
  obtain ⟨a, h1, h2⟩ := OR c k r (n + 1) q t h
  exact ⟨a, by simpa using h1, by rw [h2]; congr 1; omega⟩
theorem WI (c : CrA) (k : Int) : ∀ (l : List Ar) (n : Int), (M5 c k n l).length = l.length
 | [], _ => rfl
 | b :: r, n => by rw [M5, List.length_cons, WI c k r, List.length_cons]
section
variable {m : Md} {c : CrA}
def K6 (kept : List Tk) (ls : List Ar) : List Tk := kept.filter (fun t : Tk => (!decide (t.loc = [])) || KU ls t.id)
def PJ (ls : List Ar) : List Ar := ls.filter (fun a : Ar => !decide (0 < a.rests))
theorem RG (kept : List Tk) (ls : List Ar) (next clock : Int) : ES c kept ls next clock = K6 kept ls ++ M5 c clock next (PJ ls) := rfl
theorem K7 {kept : List Tk} {ls : List Ar} {next clock : Int} {k : Nat} {t : Tk} (h : (ES c kept ls next clock)[k]? = some t) : (k < (K6 kept ls).length ∧ (K6 kept ls)[k]? = some t) ∨ (∃ q a, k = (K6 kept ls).length + q ∧ q < (PJ ls).length ∧ a ∈ PJ ls ∧ t = KX c clock (next + (q : Int) + 1) a) := by
 rw [RG] at h
 by_cases hk : k < (K6 kept ls).length
 ·rw [List.getElem?_append_left hk] at h; exact .inl ⟨hk, h⟩
 ·rw [List.getElem?_append_right AM] at h
  obtain ⟨a, h1, h2⟩ := OR c clock _ _ _ _ h
  exact .inr ⟨k - (K6 kept ls).length, a, by omega, (List.getElem?_eq_some_iff.1 h1).1, List.mem_of_getElem? h1, h2⟩
theorem aP {i : In} {next k : Int} {b0 : Bool} (h0 : b0 = true) (h : ∀ q y, i.toks[q]? = some y → (E1 m c y = true ∧ IO y k = true ∧ 1 ≤ y.id ∧ y.id ≤ next ∧ y.id ≠ i.id) ∧ (q = 0 ∨ UK i q < y.id)) : ∀ j, PU m c i next k b0 j = true
 | 0 => h0
 | j + 1 => by
  have ih := aP h0 h j
  rw [PU]
  cases hj : i.toks[j]? with
  | none => exact ih
  | some y =>
   obtain ⟨⟨h1, h2, h3, h4, h5⟩, h6⟩ := h j y hj
   show KH m c i next k (PU m c i next k b0 j) j y = true
   unfold KH
   rw [if_pos ih, if_pos (decide_eq_true h3), if_pos (decide_eq_true h4), if_pos (by simpa using h5)]
   by_cases hj0 : j = 0
   ·rw [if_pos (by simp [hj0]), if_pos h1]; exact h2
   ·rw [if_neg (by simp only [decide_eq_true_eq]; omega), if_pos (decide_eq_true (h6.resolve_left hj0)), if_pos h1]; exact h2
theorem V8 {i : In} {next k : Int} {b0 : Bool} : ∀ {j : Nat}, PU m c i next k b0 j = true → ∀ q y, q < j → i.toks[q]? = some y → y.id ≠ i.id
 | 0, _ => fun q y hq => absurd hq (Nat.not_lt_zero _)
 | j + 1, h => by
  rw [PU] at h
  intro q y hq hy
  by_cases hqj : q = j
  ·subst hqj
   rw [hy] at h
   have h : KH m c i next k (PU m c i next k b0 q) q y = true := h
   unfold KH at h
   intro he
   rw [if_neg (c := (!decide (y.id = i.id)) = true) (by simp [he])] at h
   simp at h
  ·cases hj : i.toks[j]? with
   | none => rw [hj] at h; exact V8 h q y AM hy
   | some z => rw [hj] at h; exact V8 (kN h) q y AM hy
theorem oF {i : In} {next k : Int} (h : MG m i next k = true) : 1 ≤ i.id ∧ i.id ≤ next := by
 have h0 : HZ m i next k = true := by
  cases hc : HZ m i next k with
  | true => rfl
  | false => unfold MG at h; rw [hc] at h; simp at h
 unfold HZ at h0
 split at h0
 ·rename_i hc
  simp only [Bool.and_eq_true, decide_eq_true_eq] at hc
  exact ⟨hc.1.2, hc.2⟩
 ·cases h0
theorem dK {i : In} {next k : Int} (h : GD m c i next k = true) : 1 ≤ i.id ∧ i.id ≤ next ∧ (∀ t ∈ i.toks, t.id ≠ i.id) ∧ i.toks.Pairwise (fun a b => a.id < b.id) := by
 have hr := NX h
 unfold GD at h
 rw [Bool.and_eq_true] at h
 obtain ⟨h1, h2⟩ := oF (P5 h.1).1
 refine ⟨h1, h2, fun t ht => ?_, List.pairwise_iff_getElem.2 fun q r hq hr' hlt => ?_⟩
 ·obtain ⟨q, hq, he⟩ := List.mem_iff_getElem.1 ht
  exact V8 h.1 q t hq (by rw [List.getElem?_eq_getElem hq, he])
 ·exact hr (r - (q + 1)) q _ _ (List.getElem?_eq_getElem hq) (by rw [show q + 1 + (r - (q + 1)) = r by omega]; exact List.getElem?_eq_getElem hr')
theorem TJ (k : Int) : ∀ (l : List Ar) (n : Int), (M5 c k n l).Pairwise (fun a b => a.id < b.id)
 | [], _ => List.Pairwise.nil
 | b :: r, n => by
  rw [M5]
  refine List.pairwise_cons.2 ⟨fun t ht => ?_, TJ k r (n + 1)⟩
  obtain ⟨q, hq⟩ := List.getElem?_of_mem ht
  obtain ⟨a, _, h2⟩ := OR c k r _ q t hq
  rw [h2, OT, OT]; omega
theorem q6 {i : In} (h : i.toks.Pairwise (fun a b => a.id < b.id)) {q : Nat} {y : Tk} (hy : i.toks[q]? = some y) : q = 0 ∨ UK i q < y.id := by
 by_cases h0 : q = 0
 ·exact .inl h0
 ·obtain ⟨hq, he⟩ := List.getElem?_eq_some_iff.1 hy
  have h1 := List.pairwise_iff_getElem.1 h (q - 1) q AM hq AM
  refine .inr ?_
  unfold UK
  rw [List.getElem?_eq_getElem (show q - 1 < i.toks.length by omega)]
  rw [he] at h1
  exact h1
theorem qA {l : List Tk} {q : List UInt8} (h : onP l q = true) : ∃ t ∈ l, t.on = q := by
 unfold onP at h
 obtain ⟨t, ht, h2⟩ := List.any_eq_true.1 h
 exact ⟨t, ht, odt h2⟩
theorem nI {on : List Ar} {a : Ar} (ha : a ∈ on) : 0 ≤ jIx on a.flow := by
 unfold jIx
 have gen : ∀ (l : List Ar) (i : Nat), a ∈ l → 0 ≤ ixJ (fun (_ : Nat) (b : Ar) => decide (b.flow = a.flow)) i l := by
  intro l
  induction l with
  | nil => intro i h; cases h
  | cons b r ih =>
   intro i h
   rw [ixJ]
   by_cases hb : b.flow = a.flow
   ·rw [if_pos (by simp [hb])]; omega
   ·rw [if_neg (by simp [hb])]
    rcases List.mem_cons.1 h with rfl | h
    ·exact absurd rfl hb
    ·exact ih (i + 1) h
 exact gen on 0 ha
variable (R : Rl m)
include R
theorem eX {x : El} (hx : x ∈ m.els) : (x.kind.toNat = 4 → 1 ≤ x.tries ∧ x.tries ≤ 100) ∧ (x.kind.toNat = 3 ∨ x.kind.toNat = 7 ∨ x.kind.toNat = 8 → x.tries = 0) := by
 have h := (R.has hx).2
 unfold SZ at h
 split at h
 ·cases h
 ·split at h
  ·rename_i h4
   have h4 := odt h4
   simp only [Bool.and_eq_true, decide_eq_true_eq] at h
   exact ⟨fun _ => h.1, fun h3 => by omega⟩
  ·rename_i h4
   have h4 : ¬ (x.kind.toNat : Int) = 4 := by simpa using h4
   split at h
   ·rename_i h5
    have h5 := odt h5
    exact ⟨fun _ => by omega, fun h3 => by omega⟩
   ·split at h
    ·simp only [Bool.and_eq_true, decide_eq_true_eq] at h
     exact ⟨fun _ => by omega, fun _ => h.1.1.2⟩
    ·simp only [El.same, Bool.and_eq_true, decide_eq_true_eq] at h
     exact ⟨fun _ => by omega, fun _ => h.2.2.2.2.2.2.2.2.2.2⟩
omit R in
theorem J2 (t : Tk) : Tk.same t t = true := by simp [Tk.same]
variable (Z : Cz m c)
include Z
theorem cF {kept : List Tk} {σ : Mo} {a : Ar} {k d : Int} (hA : Ai m c kept σ) (hr : SO c σ) (ha : a ∈ σ.on ∨ a ∈ σ.done) : E1 m c (KX c k d a) = true := by
 rcases ha with ha | ha
 ·have h0 := hA.aE a ha
  obtain ⟨hF, y, hy, hel, _⟩ := jD R Z (hA.fo a ha)
  cases hs : a.stops with
  | true =>
   rw [KB (by rw [h0]; rfl) hs]
   obtain ⟨h5, h1⟩ := hA.st a ha hs
   unfold IP at h5 h1
   unfold E1
   rw [if_pos (by simp), if_pos (by simp only [Bool.and_eq_true, decide_eq_true_eq]; omega)]
   simp only [Bool.and_eq_true, Bool.or_eq_true, decide_eq_true_eq, J2]
   exact ⟨⟨hF, .inl ⟨by omega, by omega⟩⟩, trivial⟩
  | false =>
   rw [OS (by rw [h0]; rfl) hs]
   obtain ⟨i, hi⟩ := List.getElem?_of_mem ha
   rcases hr i a hi with h | ⟨h6, _⟩
   ·rw [hs] at h; cases h
   ·unfold IP at h6
    unfold E1
    rw [if_pos (by simp), if_neg (by simp only [Bool.and_eq_true, decide_eq_true_eq]; omega)]
    simp only [Bool.and_eq_true, Bool.or_eq_true, decide_eq_true_eq, J2]
    exact ⟨⟨hF, .inr AM⟩, trivial⟩
 ·obtain ⟨x, hx, hxa, _, hk, hg⟩ := hA.dn a ha
  have hne : x.id ≠ [] := (HJ (R.elN x hx)).1
  have hat := LG R Z hx
  have hiA : c.isA x.id = true := by rw [Z.eB]; exact R.isA_mem hx
  obtain ⟨t4, t0⟩ := eX R hx
  rw [MQ (by rw [hxa]; simp [hne]), hxa, hat]
  unfold E1
  rw [if_neg (by simp [hne])]
  simp only [hat, hiA, hg]
  by_cases h4 : x.kind.toNat = 4
  ·obtain ⟨h1, h2⟩ := t4 h4
   rw [if_pos (by simp [h4]), if_neg (by simp only [decide_eq_true_eq]; omega)]
   simp only [J2, Bool.true_and, Bool.and_true, Bool.and_eq_true, decide_eq_true_eq]
   omega
  ·rw [if_neg (by simp only [decide_eq_true_eq]; omega)]
   have h0 := t0 AM
   rw [h0]
   by_cases h8 : x.kind.toNat = 8
   ·rw [if_pos (by simp [h8])]
    simp only [J2, Bool.and_true, Bool.not_false]
   ·rw [if_neg (by simp only [decide_eq_true_eq]; omega)]
    simp only [J2, Bool.true_and, Bool.and_true, Bool.or_eq_true, decide_eq_true_eq]
    omega
omit R Z in
theorem cE {a : Ar} {k d : Int} (hk : 0 ≤ k) : IO (KX c k d a) k = true := by
 unfold KX
 split
 ·simp [IO, hk]
 ·split <;> simp [IO, hk]
theorem W4 {i : In} {vs : List Bd} {next clock : Int} {j : Nat} {y : Tk} {via : List UInt8} {fired : List (List UInt8)} {σ' : Mo} {ls : List Ar} {st : UInt8} (hck : GD m c i next clock = true) (hj : i.toks[j]? = some y) (hcm : (DO m c y via).2.2 = true) (hR : Rn m c vs (I5 (i.toks.eraseIdx j) (DO m c y via).1 fired) σ') (hr : SO c σ') (hp : ls.Perm (σ'.on ++ σ'.done)) (hn : next + ((PJ ls).length : Int) ≤ 2147483647)
 (hst : st = if (ES c (i.toks.eraseIdx j) ls next clock).length = 0 then 2 else 1) : GD m c ⟨i.id, i.mdl, st, i.vars, ES c (i.toks.eraseIdx j) ls next clock⟩ (next + ((PJ ls).length : Int)) clock = true := by
 obtain ⟨⟨n1, n2, k1, k2, hmd, hvE⟩, hall⟩ := MH hck
 obtain ⟨d1, d2, d3, hpw⟩ := dK hck
 have hkm : ∀ t ∈ i.toks.eraseIdx j, t ∈ i.toks := fun t ht => List.mem_of_mem_eraseIdx ht
 have hkp : ∀ t ∈ i.toks.eraseIdx j, E1 m c t = true := fun t ht => (hall t (hkm t ht)).1
 have hA : Ai m c (i.toks.eraseIdx j) σ' := rB R Z hkp (l9 R Z hkp (dH R Z (hall y (List.mem_of_getElem? hj)).1 hcm)) hR
 have hin : ∀ {a : Ar}, a ∈ ls → a ∈ σ'.on ∨ a ∈ σ'.done := fun ha => List.mem_append.1 (hp.mem_iff.1 ha)
 have hsm : ∀ t ∈ K6 (i.toks.eraseIdx j) ls, t ∈ i.toks.eraseIdx j ∧ ((!decide (t.loc = [])) || KU ls t.id) = true := fun t ht => List.mem_filter.1 ht
 have hpk : (K6 (i.toks.eraseIdx j) ls).Pairwise (fun a b => a.id < b.id) := (hpw.sublist (List.eraseIdx_sublist i.toks j)).sublist List.filter_sublist
 have hpr : (ES c (i.toks.eraseIdx j) ls next clock).Pairwise (fun a b => a.id < b.id) := by
  rw [RG]
  refine List.pairwise_append.2 ⟨hpk, TJ clock _ _, fun a ha b hb => ?_⟩
  obtain ⟨q, hq⟩ := List.getElem?_of_mem hb
  obtain ⟨x, _, h2⟩ := OR c clock _ _ q b hq
  have := (hall a (hkm a (hsm a ha).1)).2.2.2
  rw [h2, OT]; omega
 have hlen : ∀ q y', (ES c (i.toks.eraseIdx j) ls next clock)[q]? = some y' → E1 m c y' = true ∧ IO y' clock = true ∧ 1 ≤ y'.id ∧ y'.id ≤ next + ((PJ ls).length : Int) ∧ y'.id ≠ i.id := fun q y' hy' => by
  rcases K7 hy' with ⟨_, h⟩ | ⟨q', a, _, hq', ha, rfl⟩
  ·have h1 := (hsm y' (List.mem_of_getElem? h)).1
   obtain ⟨a1, a2, a3, a4⟩ := hall y' (hkm y' h1)
   exact ⟨a1, a2, a3, by omega, d3 y' (hkm y' h1)⟩
  ·refine ⟨cF R Z hA hr (hin (List.mem_filter.1 ha).1), cE k1, ?_, ?_, ?_⟩ <;> rw [OT] <;> omega
 have hB : MG m ⟨i.id, i.mdl, st, i.vars, ES c (i.toks.eraseIdx j) ls next clock⟩ (next + ((PJ ls).length : Int)) clock = true := by
  have h0 : HZ m ⟨i.id, i.mdl, st, i.vars, ES c (i.toks.eraseIdx j) ls next clock⟩ (next + ((PJ ls).length : Int)) clock = true := by
   unfold HZ
   rw [if_pos (by simp only [Bool.and_eq_true, decide_eq_true_eq]; exact ⟨⟨⟨⟨⟨⟨by omega, hn⟩, k1⟩, k2⟩, hmd⟩, d1⟩, by omega⟩)]
   exact hvE
  unfold MG
  rw [h0, hst]
  by_cases hl : (ES c (i.toks.eraseIdx j) ls next clock).length = 0
  ·rw [if_pos hl]; simp [hl]
  ·rw [if_neg hl]
   simp only [Bool.true_and]
   rw [if_pos (by rfl), decide_eq_true_eq]; omega
 unfold GD
 rw [Bool.and_eq_true]
 refine ⟨aP (i := ⟨i.id, i.mdl, st, i.vars, ES c (i.toks.eraseIdx j) ls next clock⟩) hB (fun q y' hy' => ⟨hlen q y' hy', q6 (i := ⟨i.id, i.mdl, st, i.vars, ES c (i.toks.eraseIdx j) ls next clock⟩) hpr hy'⟩) _, List.all_eq_true.2 fun x hx => ?_⟩
 rw [Bool.not_eq_true']
 unfold dJ
 by_cases h6 : x.kind.toNat = 6
 ·rw [if_pos (by simp [h6]), Bool.not_eq_false']
  refine Classical.byContradiction fun hno => ?_
  have hno : ∀ f ∈ c.ins x.id, onP (ES c (i.toks.eraseIdx j) ls next clock) f = true := fun f hf => by
   have h := List.any_eq_false.1 (Bool.not_eq_true _ ▸ hno) f hf
   simpa using h
  -- a token on each flow in is one under way
  have hon : ∀ f ∈ c.ins x.id, ∃ a ∈ σ'.on, a.flow = f := fun f hf => by
   obtain ⟨t, ht, hto⟩ := qA (hno f hf)
   obtain ⟨fl, hfl, hfi, _⟩ := XA R Z hf
   have hfn : f ≠ [] := by rw [← hfi]; exact (HJ (R.flN fl hfl)).1
   obtain ⟨q, hq⟩ := List.getElem?_of_mem ht
   rcases K7 hq with ⟨_, h⟩ | ⟨q', a, _, _, ha, rfl⟩
   ·obtain ⟨h1, h2⟩ := hsm t (List.mem_of_getElem? h)
    have hl : t.loc = [] := Classical.byContradiction fun hl => by
     have := (OO (hkp t h1) hl).2.1
     exact hfn (by rw [← hto, this])
    rw [hl] at h2
    simp only [decide_true, Bool.not_true, Bool.false_or] at h2
    unfold KU at h2
    obtain ⟨a, ha, h3⟩ := List.any_eq_true.1 h2
    simp only [Bool.and_eq_true, decide_eq_true_eq] at h3
    rcases hin ha with h4 | h4
    ·obtain ⟨u, hu, _, hui, huf⟩ := hA.rs a h4 h3.2
     refine ⟨a, h4, ?_⟩
     obtain ⟨q1, hq1⟩ := List.getElem?_of_mem (hkm u hu)
     obtain ⟨q2, hq2⟩ := List.getElem?_of_mem (hkm t h1)
     have := SD hck hq1 hq2 AM
     subst this
     rw [hq1] at hq2
     injection hq2 with hq2
     rw [huf, hq2, hto]
    ·obtain ⟨_, _, _, h5, _⟩ := hA.dn a h4
     omega
   ·rcases hin (List.mem_filter.1 ha).1 with h4 | h4
    ·refine ⟨a, h4, ?_⟩
     have h0 := hA.aE a h4
     rw [← hto]
     unfold KX
     rw [if_neg (by simp [h0])]
     split <;> rfl
    ·obtain ⟨z, hz, hza, _⟩ := hA.dn a h4
     have hne : z.id ≠ [] := (HJ (R.elN z hz)).1
     rw [MQ (by rw [hza]; simp [hne])] at hto
     exact absurd hto.symm hfn
  have hal : (c.ins x.id).all (fun f => decide (0 ≤ jIx σ'.on f)) = true := List.all_eq_true.2 fun f hf => by
   obtain ⟨a, ha, rfl⟩ := hon f hf
   exact decide_eq_true (nI ha)
  have hpos : 0 < (c.ins x.id).length := by
   rw [YQ R Z hx, List.length_map]
   have := ((R.out1 hx).2.2.1 (.inr h6)).2
   omega
  obtain ⟨f0, hf0⟩ := List.exists_mem_of_length_pos hpos
  obtain ⟨a, ha, haf⟩ := hon f0 hf0
  obtain ⟨fl, hfl, hfi, hft⟩ := XA R Z hf0
  have hel : IP c a = x := by
   unfold IP
   rw [haf, ← hfi, (TX R Z hfl).1, hft]
   exact LG R Z hx
  obtain ⟨q, hq⟩ := List.getElem?_of_mem ha
  rcases hr q a hq with h | ⟨_, h⟩
  ·have := (hA.st a ha h).1
   rw [hel] at this; omega
  ·rw [hel, hal] at h; cases h
 ·rw [if_neg (by simp only [decide_eq_true_eq]; omega)]
end
end
end Go.Proofs.YtjaocmocdhckaaaGreatDoor
