/- Contract of a disk's burns, whole. -/
import Derived.Test.YtbfeailalhddgaaDisk7
import Derived.Test.YtbfeailalhddgaaSxAny
namespace Go.Proofs.Ytbfeailalhddgaa
open Go.RowKit

def DS.due (s : DS) : Bool := s.fset && s.left == 0
def DS.burnt (s : DS) : DS := if s.fset && s.left != 0 then { s with left := s.left - 1 } else s
def DS.put (s : DS) (i : Nat) (b : List UInt8) : DS := { s with waits := s.waits ++ [(i, b)], shows := s.shows.set i b }
def DS.more (s : DS) : DS := { s with done := s.done + 1 }
def DS.writes (s : DS) (i : Nat) (b : List UInt8) : DS × Int :=
  if s.due then ((s.burnt.put i b).crash s.keep s.torn s.cut, 20) else ((s.burnt.put i b).more, 0)
def DS.flushes (s : DS) : DS × Int := if s.due then (s.crash s.keep s.torn s.cut, 20) else (s.burnt.flush, 0)

theorem DS.burnt_wf {s : DS} (h : s.Wf) : s.burnt.Wf := by
  unfold DS.burnt
  split
  · exact ⟨h.pos, h.le, h.sl, h.al, h.ash, h.aw, h.cut, by have := h.lm; show ((s.left - 1 : Nat) : Int) < _; omega⟩
  · exact h
theorem DS.burnt_due {s : DS} (h : s.due = true) : s.burnt = s := by
  unfold DS.due at h; unfold DS.burnt
  simp only [Bool.and_eq_true, beq_iff_eq] at h
  simp [h.1, h.2]
theorem DS.put_wf {s : DS} (h : s.Wf) {i : Nat} {b : List UInt8} (hi : i < s.lasts.length) (hb : b.length = 128) : (s.put i b).Wf where
  pos := h.pos
  le := h.le
  sl := by simpa [DS.put] using h.sl
  al := h.al
  ash := h.ash.set i hb
  aw := by
    intro x hx
    rcases List.mem_append.1 hx with hx | hx
    · exact h.aw x hx
    · obtain rfl : x = (i, b) := by simpa using hx
      exact ⟨hi, hb⟩
  cut := h.cut
  lm := h.lm

/-- What a call that writes a disk leaves. -/
structure DkTo (w w' : World) (L L' : DL) (s' : DS) : Prop where
  dk : DkAt w' L' s'
  gd : L'.gd = L.gd
  fr : Fr L.blocks w w'
  bl : ∀ b, L'.blocks b → L.blocks b ∨ w.heap.size ≤ b
  kA : L'.kA = L.kA
theorem DkTo.trans {w w1 w2 : World} {L L1 L2 : DL} {s1 s2 : DS} (h : DkTo w w1 L L1 s1) (h' : DkTo w1 w2 L1 L2 s2) : DkTo w w2 L L2 s2 where
  dk := h'.dk
  gd := h'.gd.trans h.gd
  fr := h.fr.step h'.fr (fun b hb hl => (h.bl b hl).resolve_right (by omega))
  bl := fun b hb => by
    rcases h'.bl b hb with hb | hb
    · exact h.bl b hb
    · exact .inr (Nat.le_trans h.fr.size hb)
  kA := h'.kA.trans h.kA

/-- A disk of which only own cells were written. -/
theorem DkAt.upd {w w' : World} {L : DL} {s s' : DS} (h : DkAt w L s) (hwf : s'.Wf) (hb : Blk w' L.gd 63 (s'.cells L)) (hf : Fr (fun b => b = L.gd) w w') (hl : s'.lasts = s.lasts) (hs : s'.shows = s.shows) (hw : s'.waits = s.waits) (hk : s'.keep = s.keep) : DkTo w w' L L s' := by
  refine ⟨⟨hwf, hb, ?_, ?_, ?_, ?_, h.ne, ?_⟩, rfl, hf.mono (fun b _ e => .inl e), fun b hb => .inl hb, rfl⟩
  · rw [hl]; exact ownN_fr h.hl hf (fun _ e => h.l_gd e)
  · rw [hl, hs]; exact ownN_fr h.hs hf (fun _ e => h.s_gd e)
  · rw [hw]; exact ownN_fr h.hw hf (fun _ e => h.w_gd e)
  · rw [hk]; exact h.hk.fr hf (fun hp b off e e' => h.kn hp b off e (.inl e'))
  · rw [hk]; exact h.kn
theorem DS.more_wf {s : DS} (h : s.Wf) : s.more.Wf := ⟨h.pos, h.le, h.sl, h.al, h.ash, h.aw, h.cut, h.lm⟩
theorem DkTo.crash {w w1 w' : World} {L L1 : DL} {s1 : DS} {keep : List Bool} {torn : Int} {cut : Nat} (h : DkTo w w1 L L1 s1) (h' : DkAt w' { L1 with vw := .slice none 0 0 } (s1.crash keep torn cut)) (hf : Fr L1.blocks w1 w') : DkTo w w' L { L1 with vw := .slice none 0 0 } (s1.crash keep torn cut) := by
  refine h.trans ⟨h', rfl, hf, fun b hb => ?_, rfl⟩
  rcases hb with hb | hb | hb | hb
  · exact .inl (.inl hb)
  · exact .inl (.inr (.inl hb))
  · exact .inl (.inr (.inr (.inl hb)))
  · cases hb
theorem burns_any (w : World) (L : DL) (s : DS) (h : DkAt w L s) :
    Calls Try.prog 26 #[.pointer (some ⟨L.gd, 0, none⟩)] w fun e w' => e = .returned (.bool s.due) ∧ DkTo w w' L L s.burnt := by
  by_cases hf : s.fset = true
  · by_cases h0 : s.left = 0
    · refine (burns_now w L s h hf h0).mono ?_
      rintro e _ ⟨rfl, rfl⟩
      have hd : s.due = true := by simp [DS.due, hf, h0]
      exact ⟨by rw [hd], by rw [DS.burnt_due hd]; exact h, rfl, Fr.refl, fun b hb => .inl hb, rfl⟩
    · refine (burns_later w L s h hf h0).mono ?_
      rintro e _ ⟨rfl, rfl⟩
      have hd : s.due = false := by simp [DS.due, h0]
      have hb : s.burnt = { s with left := s.left - 1 } := by simp [DS.burnt, hf, h0]
      refine ⟨by rw [hd], ⟨?_, rfl, ?_, fun b hb => .inl hb, rfl⟩⟩
      · refine h.put (DS.burnt_wf h.wf) rfl rfl rfl rfl ?_ ?_ ?_ ?_ ?_ h.kn
        · rw [hb]
        · rw [hb]
          have : ((s.left - 1 : Nat) : Int) = (s.left : Int) - 1 := by omega
          simp only [DS.cells, this]; rfl
        · rw [hb]
        · rw [hb]
        · rw [hb]
          exact ownN_fr h.hw (Fr.setCell (S := fun b => b = L.gd) Fr.refl (fun _ => rfl) _) (fun _ e => h.w_gd e)
      · exact (Fr.setCell (S := L.blocks) Fr.refl (fun _ => .inl rfl) _)
  · have hf : s.fset = false := by simpa using hf
    refine (burns_off w L s h hf).mono ?_
    rintro e _ ⟨rfl, rfl⟩
    have hd : s.due = false := by simp [DS.due, hf]
    have hb : s.burnt = s := by simp [DS.burnt, hf]
    exact ⟨by rw [hd], by rw [hb]; exact h, rfl, Fr.refl, fun b hb => .inl hb, rfl⟩
end Go.Proofs.Ytbfeailalhddgaa
