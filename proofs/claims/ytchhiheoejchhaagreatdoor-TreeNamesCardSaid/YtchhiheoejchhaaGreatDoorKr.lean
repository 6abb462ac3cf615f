/- Summaries of functions that are proved otherwise: a row that was laid meanwhile gets a number. Over any program. No condition. -/
import Derived.Test.YtchhiheoejchhaaGreatDoorKq
namespace Go.Proofs.YtchhiheoejchhaaGreatDoor
open Go.RowKit

/-- An owned row, behind a call that leaves old memory. -/
theorem own_adopt {G nx : Nat} {σ : Sg} {h : Hp} {w w' : World} {el n : Nat} {u : Value} {cs xs : List Value} (m : MR G σ h.get nx w) (hf : Fr0 w w') (hn : 0 < n) (ho : w'.ownsRow w.heap.size el 1 u n xs) (hv : VRs σ cs xs) :
    ∃ σ', VR σ' (.slice (some ⟨nx, 0, some 1⟩) n 0) u ∧ Tr G σ h.get nx w σ' (h.put nx (.cells el cs.length 0 (Tb.of cs))).get (nx + 1) w' := by
  obtain ⟨hlen, ho⟩ := ho
  rcases ho with ⟨_, h0⟩ | ⟨g, cap, cur, rfl, hg, hb, hcap, hmax, hsz, hcells⟩
  · omega
  · have hcell : ∀ (σ' : Sg), σ.le σ' → ∀ (i : Nat) (v : Value), (Tb.of cs).get i = some v → ∃ x, cur[0 + i]? = some x ∧ VR σ' v x := fun σ' hs i v hi => by
      rw [Tb.get_of] at hi
      obtain ⟨x, hx, hr⟩ := hv.get hi
      refine ⟨x, ?_, hr.mono hs⟩
      rw [Nat.zero_add]
      rw [← hcells, List.getElem?_take] at hx
      split at hx
      · simpa using hx
      · cases hx
    have hbr : ∀ σ' : Sg, σ.le σ' → BR σ' ⟨g, 0, cur.size⟩ w' (.cells el cs.length 0 (Tb.of cs)) := fun σ' hs =>
      ⟨cur, (0, 0), hb, rfl, by have := hv.len; simp; omega, fun i => by rw [Tb.get_of]; simp, hcell σ' hs, fun _ => .inl rfl⟩
    have ht := m.adopt (w' := w') ⟨g, 0, cur.size⟩ (.cells el cs.length 0 (Tb.of cs)) hg ⟨hf.os, hf.tape, hf.output⟩ hf.size (fun r hr => hf.block r hr (fun hh => hh)) hbr
    rw [Tb.put_fun]
    refine ⟨_, .slo (L := ⟨g, 0, cur.size⟩) (by simp) hcap (by simp; omega) .nil, ht⟩
end Go.Proofs.YtchhiheoejchhaaGreatDoor
