/- Contracts of a disk's burns, of a plan's may. -/
import Derived.Test.YtbfeailalhddgaaDisk3
namespace Go.Proofs.Ytbfeailalhddgaa
open Go.RowKit

theorem DkAt.c7 {w : World} {L : DL} {s : DS} (h : DkAt w L s) : w.cell? ⟨L.gd, 7, none⟩ = some (.slice L.kA s.keep.length L.kc) := (h.hd.cell 7).trans rfl
theorem DkAt.c8 {w : World} {L : DL} {s : DS} (h : DkAt w L s) : w.cell? ⟨L.gd, 8, none⟩ = some (.int .i64 s.torn) := (h.hd.cell 8).trans rfl
theorem DkAt.c9 {w : World} {L : DL} {s : DS} (h : DkAt w L s) : w.cell? ⟨L.gd, 9, none⟩ = some (.int .i64 (s.cut : Int)) := (h.hd.cell 9).trans rfl

section
variable {w : World} {L : DL} {s : DS}
theorem ownN_type {base size g : Nat} {e : TypeId} {v : Value} {n : Nat} {xs : List Value} (h : w.ownsRow base e size v n xs) (hb : v.ownBlock = some g) : ∃ cs, Blk w g e cs := by
  rcases h.2 with ⟨rfl, _⟩ | ⟨g', cap, cur, rfl, _, hg, _⟩
  · simp [Value.ownBlock] at hb
  · obtain rfl : g' = g := by simpa [Value.ownBlock] using hb
    exact ⟨cur.toList, by unfold Blk; simpa using hg⟩
theorem DkAt.l_gd (h : DkAt w L s) {b : Nat} (hb : L.vl.ownBlock = some b) : b ≠ L.gd := by
  obtain ⟨cs, hc⟩ := ownN_type h.hl hb
  exact hc.ne h.hd (by decide)
theorem DkAt.s_gd (h : DkAt w L s) {b : Nat} (hb : L.vs.ownBlock = some b) : b ≠ L.gd := by
  obtain ⟨cs, hc⟩ := ownN_type h.hs hb
  exact hc.ne h.hd (by decide)
theorem DkAt.w_gd (h : DkAt w L s) {b : Nat} (hb : L.vw.ownBlock = some b) : b ≠ L.gd := by
  obtain ⟨cs, hc⟩ := ownN_type h.hw hb
  exact hc.ne h.hd (by decide)
theorem DkAt.w_l (h : DkAt w L s) {b b' : Nat} (hb : L.vw.ownBlock = some b) (hb' : L.vl.ownBlock = some b') : b ≠ b' := by
  obtain ⟨cs, hc⟩ := ownN_type h.hw hb
  obtain ⟨cs', hc'⟩ := ownN_type h.hl hb'
  exact hc.ne hc' (by decide)
theorem DkAt.w_s (h : DkAt w L s) {b b' : Nat} (hb : L.vw.ownBlock = some b) (hb' : L.vs.ownBlock = some b') : b ≠ b' := by
  obtain ⟨cs, hc⟩ := ownN_type h.hw hb
  obtain ⟨cs', hc'⟩ := ownN_type h.hs hb'
  exact hc.ne hc' (by decide)
theorem DkAt.l_s (h : DkAt w L s) {b b' : Nat} (hb : L.vl.ownBlock = some b) (hb' : L.vs.ownBlock = some b') : b ≠ b' := fun e => h.ne (by rw [hb, hb', e])
end

/-- A disk one of whose own cells was written. -/
theorem DkAt.put {w : World} {L L' : DL} {s s' : DS} {k : Nat} {v : Value} (h : DkAt w L s) (hwf : s'.Wf) (hg : L'.gd = L.gd) (hl : L'.vl = L.vl) (hs : L'.vs = L.vs) (hkA : L'.kA = L.kA) (hkk : s'.keep = s.keep)
    (hc : s'.cells L' = (s.cells L).set k v) (hla : s'.lasts = s.lasts) (hsh : s'.shows = s.shows) (hw : (w.setCell ⟨L.gd, k, none⟩ v).ownsRow 0 67 129 L'.vw s'.waits.length (flatW s'.waits))
    (hkn : 0 < s.keep.length → ∀ b off, L.kA = some ⟨b, off, none⟩ → ¬ L'.blocks b) : DkAt (w.setCell ⟨L.gd, k, none⟩ v) L' s' := by
  have hf : Fr (fun b => b = L.gd) w (w.setCell ⟨L.gd, k, none⟩ v) := Fr.setCell (S := fun b => b = L.gd) Fr.refl (fun _ => rfl) v
  refine ⟨hwf, ?_, ?_, ?_, hw, ?_, ?_, ?_⟩
  · rw [hc, hg]; exact h.hd.set k v
  · rw [hl, hla]; exact ownN_fr h.hl hf (fun _ e => h.l_gd e)
  · rw [hs, hla, hsh]; exact ownN_fr h.hs hf (fun _ e => h.s_gd e)
  · rw [hkA, hkk]; exact h.hk.fr hf (fun hp b off e e' => h.kn hp b off e (.inl e'))
  · rw [hl, hs]; exact h.ne
  · rw [hkk, hkA]; exact hkn

theorem burns_off (w : World) (L : DL) (s : DS) (h : DkAt w L s) (hf : s.fset = false) :
    Calls Try.prog 26 #[.pointer (some ⟨L.gd, 0, none⟩)] w fun e w' => e = .returned (.bool false) ∧ w = w' := by
  have hc := h.c5
  rw [hf] at hc
  generalize L.gd = g at *
  go_enter Try.func26, Try.ntmps26
  go_wp2
  go_ret
  exact ⟨rfl, rfl⟩
theorem burns_now (w : World) (L : DL) (s : DS) (h : DkAt w L s) (hf : s.fset = true) (h0 : s.left = 0) :
    Calls Try.prog 26 #[.pointer (some ⟨L.gd, 0, none⟩)] w fun e w' => e = .returned (.bool true) ∧ w = w' := by
  have hc := h.c5
  have hd := h.c6
  rw [hf] at hc
  rw [h0] at hd
  generalize L.gd = g at *
  go_enter Try.func26, Try.ntmps26
  go_wp2
  go_ret
  exact ⟨rfl, rfl⟩
theorem burns_later (w : World) (L : DL) (s : DS) (h : DkAt w L s) (hf : s.fset = true) (h0 : s.left ≠ 0) :
    Calls Try.prog 26 #[.pointer (some ⟨L.gd, 0, none⟩)] w fun e w' => e = .returned (.bool false) ∧ w' = w.setCell ⟨L.gd, 6, none⟩ (.int .i64 ((s.left : Int) - 1)) := by
  have hc := h.c5
  have hd := h.c6
  have hz := h.hd.frozen 6
  rw [hf] at hc
  have hm := h.wf.lm
  have hl : 0 < (s.left : Int) := by omega
  have hne : ¬ (s.left : Int) = 0 := by omega
  generalize L.gd = g at *
  generalize (s.left : Int) = l at *
  go_enter Try.func26, Try.ntmps26
  go_wp2
  go_ret
  exact ⟨rfl, rfl⟩
end Go.Proofs.Ytbfeailalhddgaa
