/- DiskFuses: two disks in one memory; a fuse, plainly. -/
import Derived.Test.YtbfeailalhddgaaDiskLaw5
import Derived.Test.YtbfeailalhddgaaSx3
namespace Go.Proofs.Ytbfeailalhddgaa
open Go.RowKit

/-- A disk with a fuse of which dn were used, and one without. -/
structure Twin (K : Nat) (keep : List Bool) (torn : Int) (cut dn : Nat) (sd sx : DS) : Prop where
  eq : sd = { sx with fset := true, left := K - dn, keep := keep, torn := torn, cut := cut }
  fset : sx.fset = false
  dead : sx.dead = false
  keep : sx.keep = []
  le : dn ≤ K
  len : sx.lasts.length = 7
/-- Nothing tells them apart. -/
structure Same (sd sx : DS) : Prop where
  dead : sd.dead = sx.dead
  waits : sd.waits.length = sx.waits.length
  ld : sd.dead = true → sd.lasts = sx.lasts
  sh : sd.dead = false → sd.shows = sx.shows
  len : sx.lasts.length = 7
section
variable {K : Nat} {keep : List Bool} {torn : Int} {cut dn : Nat} {sd sx : DS}
theorem Twin.same (h : Twin K keep torn cut dn sd sx) : Same sd sx := by
  obtain ⟨rfl, h1, h2, h3, h4, h5⟩ := h
  exact ⟨rfl, rfl, fun _ => rfl, fun _ => rfl, h5⟩
theorem Twin.ddead (h : Twin K keep torn cut dn sd sx) : sd.dead = false := by rw [h.eq]; exact h.dead
theorem Twin.dkeep (h : Twin K keep torn cut dn sd sx) : sd.keep = keep := by rw [h.eq]
theorem Twin.dlen (h : Twin K keep torn cut dn sd sx) : sd.lasts.length = 7 := by rw [h.eq]; exact h.len
theorem Twin.ddone (h : Twin K keep torn cut dn sd sx) : sd.done = sx.done := by rw [h.eq]
theorem Twin.dwaits (h : Twin K keep torn cut dn sd sx) : sd.waits = sx.waits := by rw [h.eq]
theorem Twin.write_lt (h : Twin K keep torn cut dn sd sx) (hlt : dn < K) (i : Nat) (b : List UInt8) :
    (sd.writes i b).2 = 0 ∧ (sx.writes i b).2 = 0 ∧ Twin K keep torn cut (dn + 1) (sd.writes i b).1 (sx.writes i b).1 ∧ (sx.writes i b).1.done = sx.done + 1 ∧ (sx.writes i b).1.waits.length = sx.waits.length + 1 := by
  obtain ⟨rfl, h1, h2, h3, h4, h5⟩ := h
  have hne : K - dn ≠ 0 := by omega
  have e1 : (DS.writes { sx with fset := true, left := K - dn, keep := keep, torn := torn, cut := cut } i b) = ((({ sx with fset := true, left := K - dn - 1, keep := keep, torn := torn, cut := cut } : DS).put i b).more, 0) := by
    simp [DS.writes, DS.due, DS.burnt, hne]
  rw [e1, writes_plain _ h1]
  refine ⟨rfl, rfl, ⟨?_, h1, h2, h3, hlt, h5⟩, rfl, by simp [DS.more, DS.put]⟩
  simp only [DS.more, DS.put]
  rw [show K - dn - 1 = K - (dn + 1) by omega]
theorem Twin.write_eq (h : Twin K keep torn cut K sd sx) (i : Nat) (b : List UInt8) :
    (sd.writes i b).2 = 20 ∧ (sx.writes i b).2 = 0 ∧ (sx.writes i b).1.dead = false ∧ (sx.writes i b).1.keep = [] ∧ (sd.writes i b).1.keep = keep ∧ (sd.writes i b).1.dead = true ∧ Same (sd.writes i b).1 ((sx.writes i b).1.crash keep torn cut) := by
  obtain ⟨rfl, h1, h2, h3, h4, h5⟩ := h
  have e1 : (DS.writes { sx with fset := true, left := K - K, keep := keep, torn := torn, cut := cut } i b) = ((({ sx with fset := true, left := K - K, keep := keep, torn := torn, cut := cut } : DS).put i b).crash keep torn cut, 20) := by
    simp [DS.writes, DS.due, DS.burnt]
  rw [e1, writes_plain _ h1]
  refine ⟨rfl, rfl, h2, h3, rfl, rfl, rfl, rfl, fun _ => rfl, (fun h => by cases h), ?_⟩
  show (crashFrom _ _ _ _ _ _).length = 7
  rw [crashFrom_length]; exact h5
theorem Twin.flush_lt (h : Twin K keep torn cut dn sd sx) (hlt : dn < K) :
    sd.flushes.2 = 0 ∧ sx.flushes.2 = 0 ∧ Twin K keep torn cut (dn + 1) sd.flushes.1 sx.flushes.1 ∧ sx.flushes.1.done = sx.done + 1 ∧ sx.flushes.1.waits.length = 0 := by
  obtain ⟨rfl, h1, h2, h3, h4, h5⟩ := h
  have hne : K - dn ≠ 0 := by omega
  have e1 : DS.flushes { sx with fset := true, left := K - dn, keep := keep, torn := torn, cut := cut } = (({ sx with fset := true, left := K - dn - 1, keep := keep, torn := torn, cut := cut } : DS).flush, 0) := by
    simp [DS.flushes, DS.due, DS.burnt, hne]
  rw [e1, flushes_plain _ h1]
  refine ⟨rfl, rfl, ⟨?_, h1, h2, h3, hlt, ?_⟩, rfl, rfl⟩
  · simp only [DS.flush]
    rw [show K - dn - 1 = K - (dn + 1) by omega]
  · show (flushAll _ _).length = 7
    rw [flushAll_length]; exact h5
theorem Twin.flush_eq (h : Twin K keep torn cut K sd sx) :
    sd.flushes.2 = 20 ∧ sd.flushes.1.dead = true ∧ sd.flushes.1.keep = keep ∧ Same sd.flushes.1 (sx.crash keep torn cut) := by
  obtain ⟨rfl, h1, h2, h3, h4, h5⟩ := h
  have e1 : DS.flushes { sx with fset := true, left := K - K, keep := keep, torn := torn, cut := cut } = (({ sx with fset := true, left := K - K, keep := keep, torn := torn, cut := cut } : DS).crash keep torn cut, 20) := by
    simp [DS.flushes, DS.due]
  rw [e1]
  refine ⟨rfl, rfl, rfl, rfl, rfl, fun _ => rfl, (fun h => by cases h), ?_⟩
  show (crashFrom _ _ _ _ _ _).length = 7
  rw [crashFrom_length]; exact h5
end

/-- Two disks in one memory, both made since w0; the second has no fuse. -/
structure Two (w0 w : World) (Ld Lx : DL) (sd sx : DS) : Prop where
  d : Has w0 w Ld sd
  x : Has w0 w Lx sx
  ap : ∀ b, Ld.blocks b → ¬ Lx.blocks b
  kx : 0 < sd.keep.length → ∀ b off, Ld.kA = some ⟨b, off, none⟩ → ¬ Lx.blocks b
  xk : sx.keep = []
section
variable {w0 w w' : World} {Ld Lx Ld' Lx' : DL} {sd sx sd' sx' : DS}
theorem Two.fr0 (h : Two w0 w Ld Lx sd sx) (hf : Fr0 w w') : Two w0 w' Ld Lx sd sx := ⟨h.d.fr0 hf, h.x.fr0 hf, h.ap, h.kx, h.xk⟩
theorem Two.stepD (h : Two w0 w Ld Lx sd sx) (t : DkTo w w' Ld Ld' sd') (hk : sd'.keep = sd.keep) : Two w0 w' Ld' Lx sd' sx where
  d := h.d.to t
  x := ⟨(h.d.to t).fr, h.x.dk.fr t.fr (fun b hb hh => h.ap b hh hb) (fun hp => by rw [h.xk] at hp; exact absurd hp (by simp)), h.x.ge⟩
  ap := fun b hb hx => by
    rcases t.bl b hb with hb | hb
    · exact h.ap b hb hx
    · have := h.x.dk.lt hx; omega
  kx := by rw [hk, t.kA]; exact h.kx
  xk := h.xk
theorem Two.stepX (h : Two w0 w Ld Lx sd sx) (t : DkTo w w' Lx Lx' sx') (hk : sx'.keep = []) : Two w0 w' Ld Lx' sd sx' where
  d := ⟨(h.x.to t).fr, h.d.dk.fr t.fr (fun b hb hh => h.ap b hb hh) (fun hp b off e hh => h.kx hp b off e hh), h.d.ge⟩
  x := h.x.to t
  ap := fun b hb hx => by
    rcases t.bl b hx with hx | hx
    · exact h.ap b hb hx
    · have := h.d.dk.lt hb; omega
  kx := fun hp b off e hx => by
    rcases t.bl b hx with hx | hx
    · exact h.kx hp b off e hx
    · have := h.d.dk.hk.lt hp b off e; omega
  xk := hk
theorem Two.off (h : Two w0 w Ld Lx sd sx) {g : Nat} {t : TypeId} {cs : List Value} (hb : Blk w g t cs) (ht : t ≠ 63 ∧ t ≠ 65 ∧ t ≠ 67) (hg : w0.heap.size ≤ g) (hf : Fr (fun k => k = g) w w')
    (hkA : 0 < sd.keep.length → ∀ b off, Ld.kA = some ⟨b, off, none⟩ → b ≠ g) : Two w0 w' Ld Lx sd sx where
  d := ⟨h.d.fr.step hf (fun b hb e => by omega), h.d.dk.fr hf (fun b hbb e => h.d.dk.notin hb ht (e ▸ hbb)) (fun hp b off e e' => hkA hp b off e e'), h.d.ge⟩
  x := ⟨h.d.fr.step hf (fun b hb e => by omega), h.x.dk.fr hf (fun b hbb e => h.x.dk.notin hb ht (e ▸ hbb)) (fun hp => by rw [h.xk] at hp; exact absurd hp (by simp)), h.x.ge⟩
  ap := h.ap
  kx := h.kx
  xk := h.xk
theorem Two.fuse (h : Two w0 w Ld Lx sd sx) (t : FuTo w w' Ld Ld' sd') : Two w0 w' Ld' Lx sd' sx := by
  have e : ∀ b, Ld'.blocks b → Ld.blocks b := fun b hb => by unfold DL.blocks at hb ⊢; rw [t.gd, t.vl, t.vs, t.vw] at hb; exact hb
  refine ⟨⟨h.d.fr.step t.fr (fun b hb e => by have := h.d.ge b (.inl e); omega), t.dk, fun b hb => h.d.ge b (e b hb)⟩, ⟨h.d.fr.step t.fr (fun b hb e => by have := h.d.ge b (.inl e); omega), h.x.dk.fr t.fr (fun b hb e => h.ap b (.inl e) hb) (fun hp => by rw [h.xk] at hp; exact absurd hp (by simp)), h.x.ge⟩, fun b hb => h.ap b (e b hb), fun hp b off ek hx => ?_, h.xk⟩
  have := t.kA b off ek
  have := h.x.dk.lt hx
  omega
end
theorem boolsV_length (l : List Bool) : (boolsV l).length = l.length := by simp [boolsV]
theorem boolsV_set (l : List Bool) (k : Nat) (b : Bool) : (boolsV l).set k (.bool b) = boolsV (l.set k b) := by unfold boolsV; rw [List.map_set]
theorem own_form0 {w : World} {base size : Nat} {e : TypeId} {v : Value} {n : Nat} {xs : List Value} (h : w.ownsRow base e size v n xs) : ∃ A cap, v = .slice A n cap ∧ (A = none → cap = 0) := by
  rcases h.2 with ⟨rfl, rfl⟩ | ⟨g, cap, cur, rfl, _⟩
  · exact ⟨none, 0, rfl, fun _ => rfl⟩
  · exact ⟨some _, cap, rfl, fun e => by cases e⟩
end Go.Proofs.Ytbfeailalhddgaa
