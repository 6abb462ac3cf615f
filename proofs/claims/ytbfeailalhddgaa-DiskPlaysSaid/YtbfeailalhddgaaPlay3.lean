/- DiskPlays: both disks in one memory; what is shown, plainly. -/
import Derived.Test.YtbfeailalhddgaaPlay2
namespace Go.Proofs.Ytbfeailalhddgaa
open Go.RowKit

theorem coh_congr {s s' : DS} (h : Coh s) (h1 : s'.shows = s.shows) (h2 : s'.waits = s.waits) (h3 : s'.lasts = s.lasts) : Coh s' := by
  intro i b hb
  rw [h1] at hb
  have := h i b hb
  unfold Shown at this ⊢
  rw [h2, h3]; exact this
theorem coh_plain {s : DS} (h1 : s.shows = s.lasts) (h2 : s.waits = []) : Coh s := fun i b hb => .inr ⟨fun j x hx => by rw [h2] at hx; simp at hx, by rw [← h1]; exact hb⟩
theorem coh_put {s : DS} (h : Coh s) (i : Nat) (b : List UInt8) (hi : i < s.shows.length) : Coh (s.put i b) := by
  intro j c hc
  have hc : (s.shows.set i b)[j]? = some c := hc
  by_cases hij : i = j
  · subst hij
    rw [List.getElem?_set_self hi] at hc
    simp only [Option.some.injEq] at hc
    subst hc
    refine .inl ⟨s.waits.length, ?_, fun j x hj hx => ?_⟩
    · show (s.waits ++ [(i, b)])[s.waits.length]? = _
      rw [List.getElem?_concat_length]
    · have := (List.getElem?_eq_some_iff.1 hx).1
      simp [DS.put] at this
      omega
  · rw [List.getElem?_set_ne hij] at hc
    have hnew : ∀ (k : Nat) (x : Nat × List UInt8), (s.waits ++ [(i, b)])[k]? = some x → k < s.waits.length ∧ s.waits[k]? = some x ∨ x = (i, b) := by
      intro k x hx
      by_cases hk : k < s.waits.length
      · rw [List.getElem?_append_left hk] at hx; exact .inl ⟨hk, hx⟩
      · have hl := (List.getElem?_eq_some_iff.1 hx).1
        obtain rfl : k = s.waits.length := by simp at hl; omega
        rw [List.getElem?_concat_length] at hx
        exact .inr (by simpa using hx.symm)
    rcases h j c hc with ⟨k, h1, h2⟩ | ⟨h1, h2⟩
    · refine .inl ⟨k, ?_, fun m x hm hx => ?_⟩
      · show (s.waits ++ [(i, b)])[k]? = _
        rw [List.getElem?_append_left (List.getElem?_eq_some_iff.1 h1).1]; exact h1
      · rcases hnew m x hx with ⟨_, hx'⟩ | rfl
        · exact h2 m x hm hx'
        · exact hij
    · refine .inr ⟨fun m x hx => ?_, h2⟩
      rcases hnew m x hx with ⟨_, hx'⟩ | rfl
      · exact h1 m x hx'
      · exact hij
theorem flush_miss : ∀ (ws : List (Nat × List UInt8)) (l : List (List UInt8)) (j : Nat), (∀ (k : Nat) (x : Nat × List UInt8), ws[k]? = some x → x.1 ≠ j) → (flushAll ws l)[j]? = l[j]?
  | [], _, _, _ => rfl
  | x :: ws, l, j, h => by
    rw [flushAll, flush_miss ws _ j (fun k y hy => h (k + 1) y (by simpa using hy)), List.getElem?_set_ne (h 0 x rfl)]
theorem flush_hit : ∀ (ws : List (Nat × List UInt8)) (l : List (List UInt8)) (j k : Nat) (b : List UInt8), j < l.length → ws[k]? = some (j, b) → (∀ (m : Nat) (x : Nat × List UInt8), k < m → ws[m]? = some x → x.1 ≠ j) → (flushAll ws l)[j]? = some b
  | [], _, _, _, _, _, h, _ => by simp at h
  | x :: ws, l, j, 0, b, hj, h, hn => by
    simp only [List.getElem?_cons_zero, Option.some.injEq] at h
    subst h
    rw [flushAll, flush_miss ws _ j (fun k y hy => hn (k + 1) y (by omega) (by simpa using hy)), List.getElem?_set_self hj]
  | x :: ws, l, j, k + 1, b, hj, h, hn => by
    rw [flushAll]
    exact flush_hit ws _ j k b (by rw [List.length_set]; exact hj) (by simpa using h) (fun m y hm hy => hn (m + 1) y (by omega) (by simpa using hy))
theorem coh_flush {s : DS} (h : Coh s) (hw : s.Wf) : Coh s.flush := by
  intro j c hc
  have hc : s.shows[j]? = some c := hc
  refine .inr ⟨fun k x hx => by simp [DS.flush] at hx, ?_⟩
  show (flushAll s.waits s.lasts)[j]? = some c
  rcases h j c hc with ⟨k, h1, h2⟩ | ⟨h1, h2⟩
  · exact flush_hit _ _ j k c (by rw [← hw.sl]; exact (List.getElem?_eq_some_iff.1 hc).1) h1 h2
  · rw [flush_miss _ _ j h1]; exact h2
theorem coh_burnt {s : DS} (h : Coh s) : Coh s.burnt := by
  unfold DS.burnt; split
  · exact coh_congr h rfl rfl rfl
  · exact h
theorem coh_writes {s : DS} (h : Coh s) (hw : s.Wf) (i : Nat) (b : List UInt8) (hi : i < s.lasts.length) (hd : (s.writes i b).1.dead = false) : Coh (s.writes i b).1 := by
  unfold DS.writes at hd ⊢
  split
  · rename_i hdue; rw [if_pos hdue] at hd; cases hd
  · have hsh : s.burnt.shows = s.shows := by unfold DS.burnt; split <;> rfl
    exact coh_congr (coh_put (coh_burnt h) i b (by rw [hsh, hw.sl]; exact hi)) rfl rfl rfl
theorem coh_flushes {s : DS} (h : Coh s) (hw : s.Wf) (hd : s.flushes.1.dead = false) : Coh s.flushes.1 := by
  unfold DS.flushes at hd ⊢
  split
  · rename_i hdue; rw [if_pos hdue] at hd; cases hd
  · exact coh_flush (coh_burnt h) (DS.burnt_wf hw)
theorem writes_small (s : DS) (i : Nat) (b : List UInt8) : (s.writes i b).1.waits.length ≤ s.waits.length + 1 ∧ (s.writes i b).1.done ≤ s.done + 1 := by
  have hw : s.burnt.waits = s.waits := by unfold DS.burnt; split <;> rfl
  have hd : s.burnt.done = s.done := by unfold DS.burnt; split <;> rfl
  unfold DS.writes
  split
  · exact ⟨by simp [DS.crash], by show s.burnt.done ≤ _; omega⟩
  · refine ⟨?_, by show s.burnt.done + 1 ≤ _; omega⟩
    show (s.burnt.waits ++ [_]).length ≤ _
    rw [hw]; simp
theorem flushes_small (s : DS) : s.flushes.1.waits.length ≤ s.waits.length + 1 ∧ s.flushes.1.done ≤ s.done + 1 := by
  have hd : s.burnt.done = s.done := by unfold DS.burnt; split <;> rfl
  unfold DS.flushes
  split
  · exact ⟨by simp [DS.crash], by show s.done ≤ _; omega⟩
  · exact ⟨by simp [DS.flush], by show s.burnt.done + 1 ≤ _; omega⟩
theorem crashFrom_take (keep : List Bool) (torn : Int) (cut n : Nat) : ∀ (ws : List (Nat × List UInt8)) (k : Nat) (l : List (List UInt8)), k + ws.length ≤ n → crashFrom (keep.take n) torn cut k ws l = crashFrom keep torn cut k ws l
  | [], _, _, _ => rfl
  | x :: ws, k, l, h => by
    simp only [List.length_cons] at h
    have e : (keep.take n).getD k false = keep.getD k false := by rw [List.getD_eq_getElem?_getD, List.getD_eq_getElem?_getD, List.getElem?_take_of_lt (by omega)]
    rw [crashFrom, crashFrom, crashFrom_take keep torn cut n ws (k + 1) _ (by omega)]
    unfold crashOne
    rw [e]

/-- Both disks in one memory. -/
structure Pair (w0 w : World) (L : DL) (R : RL) (sd sr : DS) : Prop where
  fr : Fr0 w0 w
  d : DkAt w L sd
  r : RkAt w R sr
  dge : ∀ b, L.blocks b → w0.heap.size ≤ b
  oge : ∀ b, R.own b → w0.heap.size ≤ b
  kn : 0 < sd.keep.length → ∀ b off, L.kA = some ⟨b, off, none⟩ → ¬ R.own b
/-- Block g is none of theirs. -/
structure Off (L : DL) (R : RL) (sd : DS) (g : Nat) : Prop where
  l : ¬ L.blocks g
  o : ¬ R.own g
  r : ¬ R.ro g
  k : 0 < sd.keep.length → ∀ b off, L.kA = some ⟨b, off, none⟩ → b ≠ g
section
variable {w0 w w' : World} {L L' : DL} {R R' : RL} {sd sr sd' sr' : DS} {g : Nat}
theorem Pair.fr0 (h : Pair w0 w L R sd sr) (hf : Fr0 w w') : Pair w0 w' L R sd sr := ⟨h.fr.then0 hf, h.d.fr0 hf, h.r.fr0 hf, h.dge, h.oge, h.kn⟩
theorem Pair.apart (h : Pair w0 w L R sd sr) {b : Nat} (hb : L.blocks b) : ¬ R.own b ∧ ¬ R.ro b := by
  obtain ⟨t, cs, hc, ht⟩ := h.d.ty hb
  exact ⟨h.r.onot hc (by rcases ht with rfl | rfl | rfl <;> decide), h.r.rnot hc (by rcases ht with rfl | rfl | rfl <;> decide)⟩
theorem Pair.stepD (h : Pair w0 w L R sd sr) (t : DkTo w w' L L' sd') (hk : sd'.keep = sd.keep) : Pair w0 w' L' R sd' sr where
  fr := h.fr.step t.fr (fun b hb hh => by have := h.dge b hh; omega)
  d := t.dk
  r := h.r.fr t.fr (fun b hb hh => (h.apart hh).1 hb) (fun b hb hh => (h.apart hh).2 hb)
  dge := fun b hb => by
    have := h.fr.size
    rcases t.bl b hb with hb | hb
    · exact h.dge b hb
    · omega
  oge := h.oge
  kn := by rw [hk, t.kA]; exact h.kn
theorem Pair.stepR (h : Pair w0 w L R sd sr) (t : RkTo w w' R R' sr') : Pair w0 w' L R' sd sr' where
  fr := h.fr.step t.fr (fun b hb hh => by have := h.oge b hh; omega)
  d := h.d.fr t.fr (fun b hb hh => (h.apart hb).1 hh) (fun hp b off e hh => h.kn hp b off e hh)
  r := t.rk
  dge := h.dge
  oge := fun b hb => by
    have := h.fr.size
    rcases t.bo b hb with hb | hb
    · exact h.oge b hb
    · omega
  kn := fun hp b off e hb => by
    rcases t.bo b hb with hb | hb
    · exact h.kn hp b off e hb
    · have := h.d.hk.lt hp b off e; omega
theorem Pair.fuse (h : Pair w0 w L R sd sr) (t : FuTo w w' L L' sd') : Pair w0 w' L' R sd' sr := by
  have e : ∀ b, L'.blocks b → L.blocks b := fun b hb => by unfold DL.blocks at hb ⊢; rw [t.gd, t.vl, t.vs, t.vw] at hb; exact hb
  have hg : L.blocks L.gd := .inl rfl
  refine ⟨h.fr.step t.fr (fun b hb e => by have := h.dge b (.inl e); omega), t.dk, h.r.fr t.fr (fun b hb e => by subst e; exact (h.apart hg).1 hb) (fun b hb e => by subst e; exact (h.apart hg).2 hb), fun b hb => h.dge b (e b hb), h.oge, fun hp b off ek hb => ?_⟩
  have := t.kA b off ek
  have := h.r.olt hb
  omega
theorem Pair.off (h : Pair w0 w L R sd sr) (o : Off L R sd g) (hg : w0.heap.size ≤ g) (hf : Fr (fun k => k = g) w w') : Pair w0 w' L R sd sr :=
  ⟨h.fr.step hf (fun b hb e => by omega), h.d.fr hf (fun b hb e => o.l (e ▸ hb)) (fun hp b off e e' => o.k hp b off e e'), h.r.fr hf (fun b hb e => o.o (e ▸ hb)) (fun b hb e => o.r (e ▸ hb)), h.dge, h.oge, h.kn⟩
/-- A block that is new is none of theirs. -/
theorem Pair.new (h : Pair w0 w L R sd sr) (hg : w.heap.size ≤ g) : Off L R sd g :=
  ⟨fun hh => by have := h.d.lt hh; omega, fun hh => by have := h.r.olt hh; omega, fun hh => by have := h.r.rlt hh; omega, fun hp b off e e' => by have := h.d.hk.lt hp b off e; omega⟩
theorem Off.stepD (o : Off L R sd g) (hg : g < w.heap.size) (t : DkTo w w' L L' sd') (hk : sd'.keep = sd.keep) : Off L' R sd' g :=
  ⟨fun hh => by rcases t.bl g hh with h | h; exact o.l h; omega, o.o, o.r, by rw [hk, t.kA]; exact o.k⟩
theorem Off.stepR (o : Off L R sd g) (hg : g < w.heap.size) (t : RkTo w w' R R' sr') : Off L R' sd g :=
  ⟨o.l, fun hh => by rcases t.bo g hh with h | h; exact o.o h; omega, fun hh => by rcases t.br g hh with h | h; exact o.r h; omega, o.k⟩
theorem Off.fuse (o : Off L R sd g) (hg : g < w.heap.size) (t : FuTo w w' L L' sd') : Off L' R sd' g :=
  ⟨fun hh => o.l (by unfold DL.blocks at hh ⊢; rw [t.gd, t.vl, t.vs, t.vw] at hh; exact hh), o.o, o.r, fun hp b off e e' => by have := t.kA b off e; omega⟩
end
theorem keep_writes (s : DS) (i : Nat) (b : List UInt8) : (s.writes i b).1.keep = s.keep := by
  unfold DS.writes DS.burnt; split <;> split <;> rfl
theorem keep_flushes (s : DS) : s.flushes.1.keep = s.keep := by
  unfold DS.flushes DS.burnt; split
  · rfl
  · split <;> rfl

theorem DkTo.of0 {w w' : World} {L : DL} {s : DS} (h : DkAt w L s) (hf : Fr0 w w') : DkTo w w' L L s := ⟨h.fr0 hf, rfl, hf.of0, fun _ hb => .inl hb, rfl⟩
theorem own_nil8 (w : World) (base : Nat) : w.ownsRow base 5 1 (.slice none 0 0) ([] : List UInt8).length (bvs []) := World.ownsRow_nil ..
def ReadsAs (f : FuncId) (g : Nat) (at_ : Int) (w : World) (bs : List UInt8) (code : Int) : Prop :=
  Calls Try.prog f #[.pointer (some ⟨g, 0, none⟩), .int .i64 at_] w fun e w' => (∃ v, e = .returned (.tuple #[v, .int .i64 code]) ∧ w'.ownsRow w.heap.size 5 1 v bs.length (bvs bs)) ∧ Fr0 w w'
theorem both_read (at_ : Int) (s : DS) (hw : s.Wf) (co : s.dead = false → Coh s) (hwm : s.waits.length ≤ 1073741824) : ∃ (bs : List UInt8) (code : Int), bs.length ≤ 128 ∧ (∀ w L, DkAt w L s → ReadsAs 17 L.gd at_ w bs code) ∧ (∀ w R, RkAt w R s → ReadsAs 32 R.gd at_ w bs code) := by
  cases hd : s.dead with
  | true =>
    refine ⟨[], 20, by simp, fun w L h => ?_, fun w R h => ?_⟩
    · exact (read_dead at_ L.gd w (by rw [← hd]; exact h.c4)).mono (by rintro e w' ⟨rfl, rfl⟩; exact ⟨⟨_, rfl, own_nil8 _ _⟩, Fr.refl⟩)
    · exact (rread_dead at_ w R s h hd).mono (by rintro e w' ⟨rfl, rfl⟩; exact ⟨⟨_, rfl, own_nil8 _ _⟩, Fr.refl⟩)
  | false =>
    by_cases hi : at_ < 0 ∨ (s.lasts.length : Int) ≤ at_
    · refine ⟨[], 1, by simp, fun w L h => ?_, fun w R h => ?_⟩
      · obtain ⟨lA, lc, el, -, -, -, -⟩ := ownN_form h.hl
        exact (read_arg at_ L.gd lA s.lasts.length lc w (by rw [← hd]; exact h.c4) (by rw [h.c0, el]) hi).mono (by rintro e w' ⟨rfl, rfl⟩; exact ⟨⟨_, rfl, own_nil8 _ _⟩, Fr.refl⟩)
      · exact (rread_arg at_ w R s h hd hi).mono (by rintro e w' ⟨rfl, rfl⟩; exact ⟨⟨_, rfl, own_nil8 _ _⟩, Fr.refl⟩)
    · obtain ⟨i, rfl⟩ : ∃ i : Nat, at_ = (i : Int) := ⟨at_.toNat, by omega⟩
      have hil : i < s.lasts.length := by omega
      obtain ⟨b, hb⟩ : ∃ b, s.shows[i]? = some b := ⟨_, List.getElem?_eq_getElem (by rw [hw.sl]; exact hil)⟩
      have hbl : b.length = 128 := hw.ash.at hb
      refine ⟨b, 0, by omega, fun w L h => ?_, fun w R h => ?_⟩
      · unfold ReadsAs; rw [hbl]; exact read_ok i w L s b h hd hb
      · unfold ReadsAs; rw [hbl]; exact rread_ok i w R s b h hd hil (co hd i b hb) hwm
theorem both_write (at_ : Int) (b : List UInt8) (s : DS) (hw : s.Wf) (co : s.dead = false → Coh s) (hwm : s.waits.length ≤ 1073741823) (hdm : s.done ≤ 1073741824) : ∃ (s' : DS) (code : Int),
    (∀ w L A cap, DkAt w L s → Rd w A b.length (bvs b) → (∀ g off, A = some ⟨g, off, none⟩ → ¬ L.blocks g) → Calls Try.prog 9 #[.pointer (some ⟨L.gd, 0, none⟩), .int .i64 at_, .slice A b.length cap] w fun e w' => ∃ L', e = .returned (.int .i64 code) ∧ DkTo w w' L L' s') ∧
    (∀ w R A cap, RkAt w R s → Rd w A b.length (bvs b) → (∀ g off, A = some ⟨g, off, none⟩ → ¬ R.own g) → Calls Try.prog 34 #[.pointer (some ⟨R.gd, 0, none⟩), .int .i64 at_, .slice A b.length cap] w fun e w' => ∃ R', e = .returned (.int .i64 code) ∧ RkTo w w' R R' s') ∧
    (s'.dead = false → Coh s') ∧ s'.keep = s.keep ∧ s'.waits.length ≤ s.waits.length + 1 ∧ s'.done ≤ s.done + 1 := by
  cases hd : s.dead with
  | true =>
    refine ⟨s, 20, fun w L A cap h _ _ => ?_, fun w R A cap h _ _ => ?_, co ∘ fun e => e, rfl, by omega, by omega⟩
    · exact (write_dead at_ _ w L s h hd).mono (by rintro e w' ⟨rfl, rfl⟩; exact ⟨L, rfl, DkTo.of0 h Fr.refl⟩)
    · exact (rwrite_dead at_ _ w R s h hd).mono (by rintro e w' ⟨rfl, rfl⟩; exact ⟨R, rfl, RkTo.of0 h Fr.refl⟩)
  | false =>
    by_cases hi : at_ < 0 ∨ (s.lasts.length : Int) ≤ at_ ∨ b.length ≠ 128
    · refine ⟨s, 1, fun w L A cap h _ _ => ?_, fun w R A cap h _ _ => ?_, co ∘ fun e => e, rfl, by omega, by omega⟩
      · exact (write_arg at_ A b.length cap w L s h hd hi).mono (by rintro e w' ⟨rfl, rfl⟩; exact ⟨L, rfl, DkTo.of0 h Fr.refl⟩)
      · exact (rwrite_arg at_ A b.length cap w R s h hd hi).mono (by rintro e w' ⟨rfl, rfl⟩; exact ⟨R, rfl, RkTo.of0 h Fr.refl⟩)
    · obtain ⟨i, rfl⟩ : ∃ i : Nat, at_ = (i : Int) := ⟨at_.toNat, by omega⟩
      have hil : i < s.lasts.length := by omega
      have hbl : b.length = 128 := by omega
      refine ⟨(s.writes i b).1, (s.writes i b).2, fun w L A cap h hr hn => ?_, fun w R A cap h hr hn => ?_, fun e => coh_writes (co hd) hw i b hil e, keep_writes s i b, (writes_small s i b).1, (writes_small s i b).2⟩
      · rw [hbl] at hr ⊢; exact write_ok i b A cap w L s h hd hil hbl hr hn (by omega) hdm
      · rw [hbl] at hr ⊢; exact rwrite_ok i b A cap w R s h hd hil hbl hr hn hwm hdm
theorem both_flush (s : DS) (hw : s.Wf) (co : s.dead = false → Coh s) (hwm : s.waits.length ≤ 1073741823) (hdm : s.done ≤ 1073741824) : ∃ (s' : DS) (code : Int),
    (∀ w L, DkAt w L s → Calls Try.prog 11 #[.pointer (some ⟨L.gd, 0, none⟩)] w fun e w' => ∃ L', e = .returned (.int .i64 code) ∧ DkTo w w' L L' s') ∧
    (∀ w R, RkAt w R s → Calls Try.prog 35 #[.pointer (some ⟨R.gd, 0, none⟩)] w fun e w' => ∃ R', e = .returned (.int .i64 code) ∧ RkTo w w' R R' s') ∧
    (s'.dead = false → Coh s') ∧ s'.keep = s.keep ∧ s'.waits.length ≤ s.waits.length + 1 ∧ s'.done ≤ s.done + 1 := by
  cases hd : s.dead with
  | true =>
    refine ⟨s, 20, fun w L h => ?_, fun w R h => ?_, co ∘ fun e => e, rfl, by omega, by omega⟩
    · exact (flush_dead w L s h hd).mono (by rintro e w' ⟨rfl, rfl⟩; exact ⟨L, rfl, DkTo.of0 h Fr.refl⟩)
    · exact (rflush_dead w R s h hd).mono (by rintro e w' ⟨rfl, rfl⟩; exact ⟨R, rfl, RkTo.of0 h Fr.refl⟩)
  | false =>
    refine ⟨s.flushes.1, s.flushes.2, fun w L h => ?_, fun w R h => ?_, fun e => coh_flushes (co hd) hw e, keep_flushes s, (flushes_small s).1, (flushes_small s).2⟩
    · exact flush_ok w L s h hd hdm
    · exact rflush_ok w R s h hd hwm hdm
theorem both_crash (keep : List Bool) (torn cut : Int) (s : DS) (co : s.dead = false → Coh s) (hwm : s.waits.length ≤ 100) : ∃ (s' : DS) (code : Int),
    (∀ w L A c, DkAt w L s → Rd w A (keep.take 100).length (boolsV (keep.take 100)) → (0 < (keep.take 100).length → ∀ b off, A = some ⟨b, off, none⟩ → ¬ L.blocks b) → Calls Try.prog 12 #[.pointer (some ⟨L.gd, 0, none⟩), .agg #[.slice A (keep.take 100).length c, .int .i64 torn, .int .i64 cut]] w fun e w' => ∃ L', e = .returned (.int .i64 code) ∧ DkTo w w' L L' s') ∧
    (∀ w R A c, RkAt w R s → Rd w A keep.length (boolsV keep) → (0 < keep.length → ∀ b off, A = some ⟨b, off, none⟩ → ¬ R.own b) → Calls Try.prog 36 #[.pointer (some ⟨R.gd, 0, none⟩), .agg #[.slice A keep.length c, .int .i64 torn, .int .i64 cut]] w fun e w' => ∃ R', e = .returned (.int .i64 code) ∧ RkTo w w' R R' s') ∧
    (s'.dead = false → Coh s') ∧ s'.keep = s.keep ∧ s'.waits.length ≤ s.waits.length + 1 ∧ s'.done ≤ s.done + 1 := by
  cases hd : s.dead with
  | true =>
    refine ⟨s, 20, fun w L A c h _ _ => ?_, fun w R A c h _ _ => ?_, co ∘ fun e => e, rfl, by omega, by omega⟩
    · exact (crashC_dead _ torn cut w L s h hd).mono (by rintro e w' ⟨rfl, hf⟩; exact ⟨L, rfl, DkTo.of0 h hf⟩)
    · exact (rcrash_dead _ torn cut w R s h hd).mono (by rintro e w' ⟨rfl, hf⟩; exact ⟨R, rfl, RkTo.of0 h hf⟩)
  | false =>
    by_cases hc : 0 ≤ cut ∧ cut ≤ 128
    · obtain ⟨cn, rfl⟩ : ∃ cn : Nat, cut = (cn : Int) := ⟨cut.toNat, by omega⟩
      have ec : s.crash (keep.take 100) torn cn = s.crash keep torn cn := by
        unfold DS.crash; rw [crashFrom_take keep torn cn 100 s.waits 0 s.lasts (by omega)]
      refine ⟨s.crash keep torn cn, 0, fun w L A c h hr hn => ?_, fun w R A c h hr hn => ?_, (fun e => by cases e), rfl, by simp [DS.crash], by show s.done ≤ _; omega⟩
      · rw [← ec]; exact crashC_ok A c (keep.take 100) torn cn w L s h hd hr hn (by omega)
      · exact rcrash_ok A c keep torn cn w R s h hd hr hn (by omega) (by omega)
    · refine ⟨s, 1, fun w L A c h _ _ => ?_, fun w R A c h _ _ => ?_, co ∘ fun e => e, rfl, by omega, by omega⟩
      · exact (crashC_arg _ torn cut w L s h hd hc).mono (by rintro e w' ⟨rfl, hf⟩; exact ⟨L, rfl, DkTo.of0 h hf⟩)
      · exact (rcrash_arg _ torn cut w R s h hd hc).mono (by rintro e w' ⟨rfl, hf⟩; exact ⟨R, rfl, RkTo.of0 h hf⟩)
/-- Fuse leaves the rows where they are; or nothing turns. -/
inductive FuOr (w w' : World) (L L' : DL) (s s' : DS) : Prop
  | fu (t : FuTo w w' L L' s') : FuOr w w' L L' s s'
  | no (hf : Fr0 w w') (e : L' = L) (es : s' = s) : FuOr w w' L L' s s'
theorem both_fuse (k : Int) (keep : List Bool) (torn cut : Int) (s : DS) (co : s.dead = false → Coh s) (hkl : k < 9223372036854775808) (hkm : keep.length ≤ 140737488351232) : ∃ (s' : DS) (code : Int),
    (∀ w L A c, DkAt w L s → Rd w A keep.length (boolsV keep) → (A = none → c = 0) → Calls Try.prog 18 #[.pointer (some ⟨L.gd, 0, none⟩), .int .i64 k, .agg #[.slice A keep.length c, .int .i64 torn, .int .i64 cut]] w fun e w' => ∃ L', e = .returned (.int .i64 code) ∧ FuOr w w' L L' s s' ∧ L'.gd = L.gd) ∧
    (∀ w R A c, RkAt w R s → Rd w A keep.length (boolsV keep) → (0 < keep.length → ∀ b off, A = some ⟨b, off, none⟩ → ¬ R.own b) → Calls Try.prog 37 #[.pointer (some ⟨R.gd, 0, none⟩), .int .i64 k, .agg #[.slice A keep.length c, .int .i64 torn, .int .i64 cut]] w fun e w' => ∃ R', e = .returned (.int .i64 code) ∧ RkTo w w' R R' s') ∧
    (s'.dead = false → Coh s') ∧ s'.waits.length ≤ s.waits.length + 1 ∧ s'.done ≤ s.done + 1 := by
  cases hd : s.dead with
  | true =>
    refine ⟨s, 20, fun w L A c h _ _ => ?_, fun w R A c h _ _ => ?_, co ∘ fun e => e, by omega, by omega⟩
    · exact (fuse_dead k _ torn cut w L s h hd).mono (by rintro e w' ⟨rfl, hf⟩; exact ⟨L, rfl, .no hf rfl rfl, rfl⟩)
    · exact (rfuse_dead k _ torn cut w R s h hd).mono (by rintro e w' ⟨rfl, hf⟩; exact ⟨R, rfl, RkTo.of0 h hf⟩)
  | false =>
    by_cases hc : (0 ≤ cut ∧ cut ≤ 128) ∧ 0 ≤ k
    · obtain ⟨cn, rfl⟩ : ∃ cn : Nat, cut = (cn : Int) := ⟨cut.toNat, by omega⟩
      obtain ⟨kn, rfl⟩ : ∃ kn : Nat, k = (kn : Int) := ⟨k.toNat, by omega⟩
      refine ⟨s.fuse kn keep torn cn, 0, fun w L A c h hr hn => ?_, fun w R A c h hr hn => ?_, fun e => coh_congr (co hd) rfl rfl rfl, by show s.waits.length ≤ _; omega, by show s.done ≤ _; omega⟩
      · exact (fuse_ok kn A c keep torn cn w L s h hd hr hn hkm (by omega) hkl).mono (by rintro e w' ⟨L', rfl, t⟩; exact ⟨L', rfl, .fu t, t.gd⟩)
      · exact rfuse_ok kn A c keep torn cn w R s h hd hr hn hkm (by omega) hkl
    · refine ⟨s, 1, fun w L A c h _ _ => ?_, fun w R A c h _ _ => ?_, co ∘ fun e => e, by omega, by omega⟩
      · exact (fuse_arg k _ torn cut w L s h hd (by omega)).mono (by rintro e w' ⟨rfl, hf⟩; exact ⟨L, rfl, .no hf rfl rfl, rfl⟩)
      · exact (rfuse_arg k _ torn cut w R s h hd (by omega)).mono (by rintro e w' ⟨rfl, hf⟩; exact ⟨R, rfl, RkTo.of0 h hf⟩)
theorem Pair.app {w0 w w' : World} {L : DL} {R : RL} {sd sr : DS} {base n : Nat} {e : TypeId} {v : Value} {xs : List Value} (h : Pair w0 w L R sd sr) (ho : w.ownsRow base e 1 v n xs) (hoff : ∀ g, v.ownBlock = some g → Off L R sd g) (hge : w0.heap.size ≤ base) (hg : w.grownBy w' v.ownBlock) : Pair w0 w' L R sd sr := by
  cases hv : v.ownBlock with
  | none =>
    rw [hv] at hg
    exact h.fr0 (Fr.grown (S := Nowhere) Fr.refl hg (fun k e _ => by cases e))
  | some g =>
    rw [hv] at hg
    exact h.off (hoff g hv) (by have := (ho.lt g hv).1; omega) (Fr.grown (S := fun k => k = g) Fr.refl hg (fun k e _ => by injection e with e; exact e.symm))
end Go.Proofs.Ytbfeailalhddgaa
