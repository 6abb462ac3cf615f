/- What stands on a disk between commits, and behind a crash, plainly. No condition. -/
import Derived.Test.YthdlljlcffokbaaDoorZCr2
namespace Go.Proofs.YthdlljlcffokbaaDoor
open Go.RowKit

abbrev Pgs := Int → Option (List UInt8)
/-- These pages lie on the disk. -/
def Kept (l : List (List UInt8)) (f : Pgs) : Prop := ∀ n t, f n = some t → 2 ≤ n ∧ n < 20 ∧ t.length ≤ 502 ∧ PgIs l n.toNat (pageOf n.toNat t)
def metaP (k q r : Nat) : List UInt8 := pageOf k (metaB q r)
/-- The two metas: the one that stays, and the one that the next commit writes over. -/
structure Metas (l : List (List UInt8)) (sq r qo qc rc : Nat) : Prop where
  lo : qo ≤ sq
  lc : qc ≤ sq
  ne : qo ≠ qc
  older : qo < qc → rc = r
  okc : RootOk 20 rc
  po : PgIs l (sq % 2) (metaP (sq % 2) qo r)
  pc : PgIs l ((sq + 1) % 2) (metaP ((sq + 1) % 2) qc rc)
/-- Opened again it tells this root, and these pages. -/
structure Holds (l : List (List UInt8)) (r : Nat) (f : Pgs) : Prop where
  kept : Kept l f
  tell : ∀ s : DS, s.shows = l → s.lasts.length = 80 → 0 ≤ (s.best 2).1 ∧ (s.best 2).2 = (r : Int)
theorem metaP_len (k q r : Nat) : (metaP k q r).length = 512 := (meta_lay k q r).len
theorem metaA_of {s : DS} {l : List (List UInt8)} (hs : s.shows = l) (hn : s.lasts.length = 80) {k : Nat} {P : List UInt8} (hp : PgIs l k P) (hl : P.length = 512) : s.metaA k = metaOf 20 (decA k P) := by
  unfold DS.metaA
  rw [hn, DS.page_of (by rw [hs]; exact hp) hl]
theorem best2 (s : DS) : s.best 2 = nxtM (nxtM (-1, 0) (s.metaA 0)) (s.metaA 1) := by
  rw [DS.best.eq_2 s 1, DS.best.eq_2 s 0, DS.best.eq_1 s]
/-- Which of the two metas is taken. -/
theorem best_lo {s : DS} {o : Nat} (ho : o < 2) {q : Nat} {r : Int} {mc : Int × Int} (h1 : s.metaA o = ((q : Int), r)) (h2 : s.metaA (1 - o) = mc) (hlt : mc.1 < q) : s.best 2 = ((q : Int), r) := by
  rw [best2]
  rcases (show o = 0 ∨ o = 1 by omega) with rfl | rfl
  · have h2 : s.metaA 1 = mc := h2
    rw [h1, h2]
    unfold nxtM
    rw [if_pos (show (-1 : Int) < (q : Int) by omega), if_neg (show ¬ (q : Int) < mc.1 by omega)]
  · have h2 : s.metaA 0 = mc := h2
    rw [h1, h2]
    unfold nxtM
    by_cases h : (-1 : Int) < mc.1
    · rw [if_pos h, if_pos (show mc.1 < (q : Int) from hlt)]
    · rw [if_neg h, if_pos (show (-1 : Int) < (q : Int) by omega)]
theorem best_hi {s : DS} {o : Nat} (ho : o < 2) {q : Nat} {r : Int} {mc : Int × Int} (h1 : s.metaA o = ((q : Int), r)) (h2 : s.metaA (1 - o) = mc) (hlt : (q : Int) < mc.1) : s.best 2 = mc := by
  rw [best2]
  rcases (show o = 0 ∨ o = 1 by omega) with rfl | rfl
  · have h2 : s.metaA 1 = mc := h2
    rw [h1, h2]
    unfold nxtM
    rw [if_pos (show (-1 : Int) < (q : Int) by omega), if_pos hlt]
  · have h2 : s.metaA 0 = mc := h2
    rw [h1, h2]
    unfold nxtM
    rw [if_pos (show (-1 : Int) < mc.1 by omega), if_neg (show ¬ mc.1 < (q : Int) by omega)]
theorem Metas.tell {l : List (List UInt8)} {sq r qo qc rc : Nat} (h : Metas l sq r qo qc rc) (hsq : sq < 200) (hr : RootOk 20 r) (s : DS) (hs : s.shows = l) (hn : s.lasts.length = 80) : 0 ≤ (s.best 2).1 ∧ (s.best 2).2 = (r : Int) := by
  have hr' : r < 256 := by unfold RootOk at hr; omega
  have hrc : rc < 256 := by have := h.okc; unfold RootOk at this; omega
  have l1 := h.lo
  have l2 := h.lc
  have ne := h.ne
  have m1 : s.metaA (sq % 2) = ((qo : Int), (r : Int)) := (metaA_of hs hn h.po (metaP_len _ _ _)).trans (metaOf_exact (by omega) hr' hr)
  have m2 : s.metaA (1 - sq % 2) = ((qc : Int), (rc : Int)) := by
    rw [show 1 - sq % 2 = (sq + 1) % 2 by omega]
    exact (metaA_of hs hn h.pc (metaP_len _ _ _)).trans (metaOf_exact (by omega) hrc h.okc)
  rcases Nat.lt_or_ge qc qo with hlt | hge
  · rw [best_lo (by omega) m1 m2 (by show (qc : Int) < qo; omega)]; exact ⟨by show (0 : Int) ≤ qo; omega, rfl⟩
  · rw [best_hi (by omega) m1 m2 (by show (qo : Int) < qc; omega)]; exact ⟨by show (0 : Int) ≤ qc; omega, by show (rc : Int) = r; rw [h.older (by omega)]⟩
/-- How a disk stands between commits. -/
structure DGood (s : DS) (sq r qo qc rc : Nat) (f : Pgs) : Prop where
  dead : s.dead = false
  syn : s.Syn
  len : s.lasts.length = 80
  lens : s.shows.length = 80
  metas : Metas s.lasts sq r qo qc rc
  kept : Kept s.lasts f
  far : ∀ x ∈ s.waits, 2 ≤ x.1 / 4 ∧ f ((x.1 / 4 : Nat) : Int) = none
  cut : s.cut ≤ 128
  sq : sq < 100
  root : RootOk 20 r
section
variable {s s' : DS} {sq r qo qc rc : Nat} {f f' : Pgs} {keep : List Bool} {torn : Int} {cut : Nat}
theorem Metas.crash_far {l : List (List UInt8)} (h : Metas l sq r qo qc rc) (ws : List (Nat × List UInt8)) (hw : ∀ x ∈ ws, 2 ≤ x.1 / 4) : Metas (crashFrom keep torn cut 0 ws l) sq r qo qc rc :=
  { h with
    po := h.po.crash_far ws 0 (fun x hx => by have := hw x hx; omega)
    pc := h.pc.crash_far ws 0 (fun x hx => by have := hw x hx; omega) }
theorem Kept.crash_far {l : List (List UInt8)} (h : Kept l f) (ws : List (Nat × List UInt8)) (hw : ∀ x ∈ ws, f ((x.1 / 4 : Nat) : Int) = none) : Kept (crashFrom keep torn cut 0 ws l) f := fun n t hn => by
  obtain ⟨h1, h2, h3, h4⟩ := h n t hn
  refine ⟨h1, h2, h3, h4.crash_far ws 0 (fun x hx e => ?_)⟩
  have := hw x hx
  rw [e, show ((n.toNat : Nat) : Int) = n by omega, hn] at this
  cases this
theorem DGood.crash (h : DGood s sq r qo qc rc f) (keep : List Bool) (torn : Int) (cut : Nat) {n : Nat} (hn : 2 ≤ n) (hf : f (n : Int) = none) (b : List UInt8) {j : Nat} (hj : j ≤ 4) : Holds (crashFrom keep torn cut 0 (s.waits ++ secs n b j) s.lasts) r f := by
  have hw : ∀ x ∈ s.waits ++ secs n b j, 2 ≤ x.1 / 4 ∧ f ((x.1 / 4 : Nat) : Int) = none := fun x hx => by
    rcases List.mem_append.1 hx with hx | hx
    · exact h.far x hx
    · rw [secs_at hj x hx]; exact ⟨hn, hf⟩
  have hsq := h.sq
  exact ⟨h.kept.crash_far _ (fun x hx => (hw x hx).2), (h.metas.crash_far _ (fun x hx => (hw x hx).1)).tell (by omega) h.root⟩
theorem DGood.crash0 (h : DGood s sq r qo qc rc f) (keep : List Bool) (torn : Int) (cut : Nat) : Holds (crashFrom keep torn cut 0 s.waits s.lasts) r f := by
  have hsq := h.sq
  exact ⟨h.kept.crash_far _ (fun x hx => (h.far x hx).2), (h.metas.crash_far _ (fun x hx => (h.far x hx).1)).tell (by omega) h.root⟩
theorem DGood.shown (h : DGood s sq r qo qc rc f) : Metas s.shows sq r qo qc rc ∧ Kept s.shows f := by
  have e : flushAll s.waits s.lasts = s.shows := h.syn
  rw [← e]
  refine ⟨{ h.metas with po := h.metas.po.flush_far _ (fun x hx => by have := (h.far x hx).1; omega), pc := h.metas.pc.flush_far _ (fun x hx => by have := (h.far x hx).1; omega) }, fun n t hn => ?_⟩
  obtain ⟨h1, h2, h3, h4⟩ := h.kept n t hn
  refine ⟨h1, h2, h3, h4.flush_far _ (fun x hx e => ?_)⟩
  have := (h.far x hx).2
  rw [e, show ((n.toNat : Nat) : Int) = n by omega, hn] at this
  cases this
theorem DGood.wrote (h : DGood s sq r qo qc rc f) {n : Nat} {b : List UInt8} (hn : 2 ≤ n) (hf : f (n : Int) = none) (hw : DS.Wrote s s' n b 4) : DGood s' sq r qo qc rc f where
  dead := hw.dead
  syn := hw.syn
  len := by rw [hw.lasts]; exact h.len
  lens := by rw [hw.len]; exact h.lens
  metas := by rw [hw.lasts]; exact h.metas
  kept := by rw [hw.lasts]; exact h.kept
  far := fun x hx => by
    rw [hw.waits] at hx
    rcases List.mem_append.1 hx with hx | hx
    · exact h.far x hx
    · rw [secs_at (Nat.le_refl _) x hx]; exact ⟨hn, hf⟩
  cut := by rw [hw.plan.cut]; exact h.cut
  sq := h.sq
  root := h.root
/-- A commit: all of it, or none of it, whatever crashes. -/
theorem DGood.commit (h : DGood s sq r qo qc rc f) {r' : Nat} (hr' : RootOk 20 r') (hk : Kept s.shows f') (hsq : sq < 99) :
    ((s.commit ((sq + 1) % 2) (metaP ((sq + 1) % 2) (sq + 1) r')).2 = true ∧ DGood (s.commit ((sq + 1) % 2) (metaP ((sq + 1) % 2) (sq + 1) r')).1 (sq + 1) r' (sq + 1) qo r f' ∧ (s.commit ((sq + 1) % 2) (metaP ((sq + 1) % 2) (sq + 1) r')).1.done = s.done + 6 ∧ (s.commit ((sq + 1) % 2) (metaP ((sq + 1) % 2) (sq + 1) r')).1.waits = []) ∨
    ((s.commit ((sq + 1) % 2) (metaP ((sq + 1) % 2) (sq + 1) r')).2 = false ∧ (s.commit ((sq + 1) % 2) (metaP ((sq + 1) % 2) (sq + 1) r')).1.dead = true ∧ (Holds (s.commit ((sq + 1) % 2) (metaP ((sq + 1) % 2) (sq + 1) r')).1.lasts r f ∨ Holds (s.commit ((sq + 1) % 2) (metaP ((sq + 1) % 2) (sq + 1) r')).1.lasts r' f')) := by
  obtain ⟨hm, hkf⟩ := h.shown
  have hcut := h.cut
  have hroot := h.root
  have ne := hm.ne
  have l1 := hm.lo
  have l2 := hm.lc
  have hrb : r < 256 := by unfold RootOk at hroot; omega
  have hrb' : r' < 256 := by unfold RootOk at hr'; omega
  have hrcb : rc < 256 := by have := hm.okc; unfold RootOk at this; omega
  have hc2 : (sq + 1) % 2 < 2 := Nat.mod_lt _ (by decide)
  generalize hP : metaP ((sq + 1) % 2) (sq + 1) r' = P
  rcases DS.commit_all (b := P) h.dead h.syn (n := (sq + 1) % 2) (by rw [h.lens]; omega) with ⟨c1, c2, c3, c4, c5, c6, c7, c8, c9, c10⟩ | ⟨c1, c2, c3⟩
  · refine .inl ⟨c1, ⟨c2, c5, by rw [c3, c9]; exact h.lens, c9.trans h.lens, ?_, ?_, by rw [c4]; simp, by rw [c8.cut]; exact hcut, by omega, hr'⟩, c10, c4⟩
    · rw [c3]
      refine ⟨Nat.le_refl _, by omega, by omega, fun hh => by omega, hroot, ?_, ?_⟩
      · show PgIs _ ((sq + 1) % 2) (metaP ((sq + 1) % 2) (sq + 1) r')
        rw [hP]; exact c6
      · rw [show (sq + 1 + 1) % 2 = sq % 2 by omega]
        exact c7 (by omega) hm.po
    · rw [c3]
      intro n t hn
      obtain ⟨k1, k2, k3, k4⟩ := hk n t hn
      exact ⟨k1, k2, k3, c7 (by omega) k4⟩
  refine .inr ⟨c1, c2, ?_⟩
  rcases c3 with c3 | ⟨j, hj, c3⟩
  · rw [c3]; exact .inl (h.crash0 _ _ _)
  rw [c3]
  have hfarw : ∀ n : Int, 2 ≤ n → ∀ x ∈ secs ((sq + 1) % 2) P j, x.1 / 4 ≠ n.toNat := fun n hn x hx e => by
    rw [secs_at hj x hx] at e; omega
  have keptOf : ∀ g, Kept s.shows g → Kept (crashFrom s.keep s.torn s.cut 0 (secs ((sq + 1) % 2) P j) s.shows) g := fun g hg n t hn => by
    obtain ⟨k1, k2, k3, k4⟩ := hg n t hn
    exact ⟨k1, k2, k3, k4.crash_far _ 0 (hfarw n k1)⟩
  obtain ⟨c, hc, hmix⟩ := secs_crash (keep := s.keep) (torn := s.torn) hcut (x := P) (by rw [← hP]; exact meta_alike _ _ _ _ _) hm.pc j hj
  have hpo : PgIs (crashFrom s.keep s.torn s.cut 0 (secs ((sq + 1) % 2) P j) s.shows) (sq % 2) (metaP (sq % 2) qo r) := hm.po.crash_far _ 0 (fun x hx e => by rw [secs_at hj x hx] at e; omega)
  have k1 := keptOf f hkf
  have k2 := keptOf f' hk
  generalize crashFrom s.keep s.torn s.cut 0 (secs ((sq + 1) % 2) P j) s.shows = l at hmix hpo k1 k2
  have hml : (mixL c P (metaP ((sq + 1) % 2) qc rc)).length = 512 := by
    rw [← hP, mixL_len ((metaP_len _ _ _).trans (metaP_len _ _ _).symm) (by rw [metaP_len]; omega), metaP_len]
  have m1 : ∀ t : DS, t.shows = l → t.lasts.length = 80 → t.metaA (sq % 2) = ((qo : Int), (r : Int)) := fun t ht hn => (metaA_of ht hn hpo (metaP_len _ _ _)).trans (metaOf_exact (by omega) hrb hroot)
  have m2 : ∀ t : DS, t.shows = l → t.lasts.length = 80 → t.metaA (1 - sq % 2) = metaOf 20 (decA ((sq + 1) % 2) (mixL c P (metaP ((sq + 1) % 2) qc rc))) := fun t ht hn => by
    rw [show 1 - sq % 2 = (sq + 1) % 2 by omega]
    exact metaA_of ht hn hmix hml
  have hthree := metaOf_mix (pages := 20) (n := (sq + 1) % 2) (a := sq + 1) (b := r') (a' := qc) (b' := rc) hc (by omega) hrb' (by omega) hrcb hr' hm.okc (by omega)
  rw [show pageOf ((sq + 1) % 2) (metaB (sq + 1) r') = P from hP] at hthree
  rcases hthree with e | e | e
  · refine .inl ⟨k1, fun t ht hn => ?_⟩
    have := m2 t ht hn
    rw [show metaP ((sq + 1) % 2) qc rc = pageOf ((sq + 1) % 2) (metaB qc rc) from rfl, e] at this
    rw [best_lo (by omega) (m1 t ht hn) this (by show (-1 : Int) < qo; omega)]
    exact ⟨by show (0 : Int) ≤ qo; omega, rfl⟩
  · refine .inr ⟨k2, fun t ht hn => ?_⟩
    have := m2 t ht hn
    rw [show metaP ((sq + 1) % 2) qc rc = pageOf ((sq + 1) % 2) (metaB qc rc) from rfl, e] at this
    rw [best_hi (by omega) (m1 t ht hn) this (by show (qo : Int) < ((sq + 1 : Nat) : Int); omega)]
    exact ⟨by show (0 : Int) ≤ ((sq + 1 : Nat) : Int); omega, rfl⟩
  · refine .inl ⟨k1, fun t ht hn => ?_⟩
    have := m2 t ht hn
    rw [show metaP ((sq + 1) % 2) qc rc = pageOf ((sq + 1) % 2) (metaB qc rc) from rfl, e] at this
    rcases Nat.lt_or_ge qc qo with hlt | hge
    · rw [best_lo (by omega) (m1 t ht hn) this (by show (qc : Int) < qo; omega)]
      exact ⟨by show (0 : Int) ≤ qo; omega, rfl⟩
    · rw [best_hi (by omega) (m1 t ht hn) this (by show (qo : Int) < qc; omega)]
      exact ⟨by show (0 : Int) ≤ qc; omega, by show (rc : Int) = r; rw [hm.older (by omega)]⟩
end
/-- A disk that was formatted. -/
theorem fmt_good : DGood (newDS 80).fmt 1 0 0 1 0 (fun _ => none) ∧ (newDS 80).fmt.waits = [] ∧ (newDS 80).fmt.done = 9 := by
  have hfs : (newDS 80).fset = false := rfl
  have sy0 : (newDS 80).Syn := rfl
  have ln0 : (newDS 80).shows.length = 80 := by simp [newDS]
  obtain ⟨ok1, fs1⟩ := DS.wrUpto_safe (newDS 80) 1 (metaP 1 0 0) hfs 4
  rcases DS.wrPage_all (s := newDS 80) (n := 1) (b := metaP 1 0 0) rfl sy0 (by rw [ln0]; decide) with ⟨_, w1⟩ | ⟨h, _⟩
  case inr => rw [show (newDS 80).wrPage 1 (metaP 1 0 0) = (newDS 80).wrUpto 1 (metaP 1 0 0) 4 from rfl, ok1] at h; cases h
  have e1 : (newDS 80).fmt1 = ((newDS 80).wrPage 1 (metaP 1 0 0)).1 := rfl
  rw [← e1] at w1
  have fs1 : (newDS 80).fmt1.fset = false := fs1
  obtain ⟨ok2, fs2⟩ := DS.wrUpto_safe (newDS 80).fmt1 0 (metaP 0 1 0) fs1 4
  rcases DS.wrPage_all (s := (newDS 80).fmt1) (n := 0) (b := metaP 0 1 0) w1.dead w1.syn (by rw [w1.len, ln0]; decide) with ⟨_, w2⟩ | ⟨h, _⟩
  case inr => rw [show (newDS 80).fmt1.wrPage 0 (metaP 0 1 0) = (newDS 80).fmt1.wrUpto 0 (metaP 0 1 0) 4 from rfl, ok2] at h; cases h
  have e2 : (newDS 80).fmt2 = ((newDS 80).fmt1.wrPage 0 (metaP 0 1 0)).1 := rfl
  rw [← e2] at w2
  have fs2 : (newDS 80).fmt2.fset = false := fs2
  have hfl : (newDS 80).fmt2.flushes.2 = 0 := by unfold DS.flushes; rw [if_neg (by rw [(DS.burnt_fset fs2).2]; decide)]
  rcases DS.flushes_all w2.dead w2.syn with ⟨_, g1, g2, g3, g4, g5, g6, g7⟩ | ⟨h, _⟩
  case inr => exact absurd hfl h
  have e3 : (newDS 80).fmt = (newDS 80).fmt2.flushes.1 := rfl
  rw [← e3] at g1 g2 g3 g4 g5 g6 g7
  have hl : (newDS 80).fmt.lasts.length = 80 := by rw [g2, w2.len, w1.len, ln0]
  refine ⟨⟨g1, g5, hl, by rw [g3, w2.len, w1.len, ln0], ⟨by decide, by decide, by decide, fun _ => rfl, .inl rfl, ?_, ?_⟩, (fun n t h => by cases h), by rw [g4]; simp, ?_, by decide, .inl rfl⟩, g4, ?_⟩
  · rw [g2]; exact w2.far (m := 1) (by decide) w1.mine
  · rw [g2]; exact w2.mine
  · rw [g6.cut, w2.plan.cut, w1.plan.cut]; exact Nat.zero_le _
  · rw [g7, w2.done, w1.done]; rfl
theorem DGood.fuse {s : DS} {sq r qo qc rc : Nat} {f : Pgs} (h : DGood s sq r qo qc rc f) (k : Nat) (keep : List Bool) (torn : Int) {cut : Nat} (hc : cut ≤ 128) : DGood (s.fuse k keep torn cut) sq r qo qc rc f :=
  ⟨h.dead, h.syn, h.len, h.lens, h.metas, h.kept, h.far, hc, h.sq, h.root⟩
end Go.Proofs.YthdlljlcffokbaaDoor
