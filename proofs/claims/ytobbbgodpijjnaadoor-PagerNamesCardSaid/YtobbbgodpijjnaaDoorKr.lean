/- Summaries of functions that are proved otherwise: a row that was laid meanwhile gets a number. Over any program. No condition. -/
import Derived.Test.YtobbbgodpijjnaaDoorKq
namespace Go.Proofs.YtobbbgodpijjnaaDoor
open Go.RowKit

/-- A block that was laid meanwhile gets a number. -/
theorem MR.adopt {G nx : Nat} {σ : Sg} {w : World} {h : Hf} (m : MR G σ h nx w) {w' : World} (L : Loc) (B : Bl) (hL : w.heap.size ≤ L.blk) (hrest : w'.os = w.os ∧ w'.tape = w.tape ∧ w'.output = w.output) (hsize : w.heap.size ≤ w'.heap.size) (hold : ∀ r, r < w.heap.size → w'.heap[r]? = w.heap[r]?)
    (hbr : ∀ σ' : Sg, σ.le σ' → BR σ' L w' B) :
    Tr G σ h nx w (fun i => if i = nx then some L else σ i) (fun i => if i = nx then some B else h i) (nx + 1) w' := by
  have hle : σ.le (fun i => if i = nx then some L else σ i) := fun i L' hi => by
    by_cases e : i = nx
    · subst e; rw [m.free i (Nat.le_refl _)] at hi; cases hi
    · simp only [if_neg e]; exact hi
  have hlt : ∀ i B' L', h i = some B' → σ i = some L' → L'.blk < w.heap.size := fun i B' L' h1 h2 => by
    obtain ⟨L1, h3, h4⟩ := m.blk i B' h1
    rw [h2] at h3; injection h3 with h3; subst h3
    exact h4.lt
  refine ⟨by omega, hle, fun i hi => by rw [if_neg (by omega)], ⟨fun i B' hi => ?_, fun i i' L1 L2 h1 h2 h3 h4 h5 => ?_, fun i hi => ?_, fun g hg => ?_, by have := m.gle; omega⟩, hrest.1, hrest.2.1, hrest.2.2, by omega, fun r hr _ => hold r hr, fun i L' hi hs => ?_, fun i hi hn => by rw [if_neg (by omega)]; exact hn⟩
  · by_cases e : i = nx
    · subst e
      rw [if_pos rfl] at hi; injection hi with hi; subst hi
      exact ⟨L, by rw [if_pos rfl], hbr _ hle⟩
    · rw [if_neg e] at hi
      obtain ⟨L1, h1, h2⟩ := m.blk i B' hi
      exact ⟨L1, by rw [if_neg e]; exact h1, h2.keep hle (hold _ h2.lt)⟩
  · by_cases e : i = nx <;> by_cases e' : i' = nx
    · rw [e, e']
    · rw [if_pos e] at h3; injection h3 with h3; subst h3
      rw [if_neg e'] at h4 h2
      obtain ⟨B2, hB2⟩ := Option.isSome_iff_exists.1 h2
      have := hlt i' B2 L2 hB2 h4
      omega
    · rw [if_pos e'] at h4; injection h4 with h4; subst h4
      rw [if_neg e] at h3 h1
      obtain ⟨B1, hB1⟩ := Option.isSome_iff_exists.1 h1
      have := hlt i B1 L1 hB1 h3
      omega
    · rw [if_neg e] at h3 h1; rw [if_neg e'] at h4 h2
      exact m.sep i i' L1 L2 h1 h2 h3 h4 h5
  · rw [if_neg (by omega)]; exact m.free i (by omega)
  · rw [if_neg (by have := m.gle; omega)]; exact m.glob g hg
  · by_cases e : i = nx
    · rw [if_pos e] at hs; injection hs with hs; subst hs
      exact .inl (by omega)
    · rw [if_neg e] at hi hs
      exact .inr ⟨i, L', hi, hs, rfl⟩
/-- An owned row, behind a call that leaves old memory. -/
theorem own_adopt {G nx : Nat} {σ : Sg} {h : Hp} {w w' : World} {el n : Nat} {u : Value} {cs xs : List Value} (m : MR G σ h.get nx w) (hf : Fr0 w w') (hn : 0 < n) (ho : w'.ownsRow w.heap.size el 1 u n xs) (hv : VRs σ cs xs) :
    ∃ σ', VR σ' (.slice (some ⟨nx, 0, some 1⟩) n 0) u ∧ Tr G σ h.get nx w σ' (h.put nx (.cells el cs.length 0 (Tb.of cs))).get (nx + 1) w' := by
  obtain ⟨hlen, ho⟩ := ho
  rcases ho with ⟨_, h0⟩ | ⟨g, cap, cur, rfl, hg, hb, hcap, hmax, hsz, hcells⟩
  · omega
  · have hcell : ∀ (σ' : Sg), σ.le σ' → ∀ (i : Nat) (v : Value), (Tb.of cs).get i = some v → ∃ x, cur[0 + i]? = some x ∧ VR σ' v x := fun σ' hs i v hi => by
      rw [Tb.get_of] at hi
      obtain ⟨x, hx, hr⟩ := hv.get hi
      refine ⟨x, ?_, hr.mono hs⟩
      rw [Nat.zero_add]
      rw [← hcells, List.getElem?_take] at hx
      split at hx
      · simpa using hx
      · cases hx
    have hbr : ∀ σ' : Sg, σ.le σ' → BR σ' ⟨g, 0, cur.size⟩ w' (.cells el cs.length 0 (Tb.of cs)) := fun σ' hs =>
      ⟨cur, (0, 0), hb, rfl, by have := hv.len; simp; omega, fun i => by rw [Tb.get_of]; simp, hcell σ' hs, fun _ => .inl rfl⟩
    have ht := m.adopt (w' := w') ⟨g, 0, cur.size⟩ (.cells el cs.length 0 (Tb.of cs)) hg ⟨hf.os, hf.tape, hf.output⟩ hf.size (fun r hr => hf.block r hr (fun hh => hh)) hbr
    rw [Tb.put_fun]
    refine ⟨_, .slo (L := ⟨g, 0, cur.size⟩) (by simp) hcap (by simp; omega) .nil, ht⟩
end Go.Proofs.YtobbbgodpijjnaaDoor
