/- The pager and the document's stay alike, step by step; plainly. No condition. -/
import Derived.Test.YthdlljlcffokbaaDoorZRf6
namespace Go.Proofs.YthdlljlcffokbaaDoor
open Go.RowKit

section
variable {N B : Nat} {p : PS} {s : DS} {x : RX}
theorem Sm.mono (h : Sm N B p s x) {B' : Nat} (hb : B ≤ B') (hb' : B' ≤ 100) : Sm N B' p s x :=
  { h with
    ms := by obtain ⟨a0, b0, a1, b1, e1, e2, e3, e4, e5, e6, e7⟩ := h.ms; exact ⟨a0, b0, a1, b1, e1, e2, e3, e4, by omega, by omega, e7⟩
    sq := by obtain ⟨q, h1, h2⟩ := h.sq; exact ⟨q, h1, by omega⟩
    b := hb'
    waits := by have := h.waits; omega
    done := by have := h.done; omega }
theorem Sm.setSt (h : Sm N B p s x) {k : Nat} (h2 : 2 ≤ k) (hk : k < N) (v : Int) : Sm N B { p with st := updS p.st (k : Int) v } s { x with st := x.st.set k v } :=
  { h with
    xlen := by show (x.st.set k v).length = N; rw [List.length_set]; exact h.xlen
    st := fun i h1 hi => by
      show updS p.st (k : Int) v (i : Int) = lst (x.st.set k v) (i : Int)
      rw [lst_set (by rw [h.xlen]; exact hk)]
      unfold updS
      by_cases e : (i : Int) = (k : Int)
      · rw [if_pos e, if_pos e]
      · rw [if_neg e, if_neg e]; exact h.st i h1 hi
    out := fun i hi => by
      show updS p.st (k : Int) v i = 0
      unfold updS
      rw [if_neg (by omega)]; exact h.out i hi }
theorem firstFree_congr {a b : Int → Int} : ∀ (k n : Nat), (∀ j : Nat, n ≤ j → j < n + k → a (j : Int) = b (j : Int)) → firstFree a k n = firstFree b k n
  | 0, _, _ => rfl
  | k + 1, n, h => by
    unfold firstFree
    rw [h n (Nat.le_refl _) (by omega), firstFree_congr k (n + 1) (fun j h1 h2 => h j (by omega) (by omega))]
theorem Sm.next (h : Sm N B p s x) : p.next = firstFree (lst x.st) (x.st.length - 2) 2 := by
  unfold PS.next
  rw [h.pages, h.xlen]
  have := h.n3
  exact firstFree_congr _ _ (fun j h1 h2 => h.st j h1 (by omega))
theorem Sm.drop (h : Sm N B p s x) (n : Int) : (p.drop s n).2 = (x.drop n).2 ∧ Sm N B (p.drop s n).1 s (x.drop n).1 := by
  have hat : p.at_ s n = if n < 2 ∨ (N : Int) ≤ n then (0, 1) else (p.st n, 0) := by
    unfold PS.at_
    rw [h.gone, if_neg (show ¬ (false = true) by decide), h.pages]
  unfold PS.drop RX.drop
  rw [hat, h.xlen]
  clear hat
  by_cases hn : n < 2 ∨ (N : Int) ≤ n
  · rw [if_pos hn, if_pos hn, if_pos (show (1 : Int) ≠ 0 by decide)]; exact ⟨rfl, h⟩
  rw [if_neg hn, if_neg hn, if_neg (show ¬ (0 : Int) ≠ 0 by decide)]
  obtain ⟨k, rfl⟩ : ∃ k : Nat, n = (k : Int) := ⟨n.toNat, by omega⟩
  rw [h.st k (by omega) (by omega), Int.toNat_natCast]
  by_cases h0 : lst x.st (k : Int) = 0 ∨ lst x.st (k : Int) = 4
  · rw [if_pos h0, if_pos h0]; exact ⟨rfl, h⟩
  rw [if_neg h0, if_neg h0]
  by_cases h1 : lst x.st (k : Int) = 1
  · rw [if_pos h1, if_pos h1]; exact ⟨rfl, h.setSt (by omega) (by omega) 4⟩
  · rw [if_neg h1, if_neg h1]; exact ⟨rfl, h.setSt (by omega) (by omega) 0⟩
theorem Sm.chk (h : Sm N B p s x) (n : Int) (k : Nat) : p.wrChk s n k = if n < 2 ∨ (N : Int) ≤ n then 1 else if 502 < k then 1 else if p.st n ≠ 2 ∧ p.st n ≠ 3 then 250 else 0 := by
  unfold PS.wrChk PS.at_
  rw [h.gone, if_neg (show ¬ (false = true) by decide), h.pages]
  by_cases hn : n < 2 ∨ (N : Int) ≤ n
  · rw [if_pos hn, if_pos hn, if_pos (by decide)]
  · rw [if_neg hn, if_neg hn, if_neg (show ¬ (0 : Int) ≠ 0 by decide)]
theorem Sm.wrNo (h : Sm N B p s x) (n : Int) (b : List UInt8) (hc : p.wrChk s n b.length ≠ 0) : p.wrChk s n b.length = (x.write n b).2 ∧ (x.write n b).1 = x := by
  rw [h.chk] at hc ⊢
  unfold RX.write
  rw [h.xlen]
  by_cases hn : n < 2 ∨ (N : Int) ≤ n
  · rw [if_pos hn, if_pos (.inl hn)]; exact ⟨rfl, rfl⟩
  rw [if_neg hn] at hc ⊢
  by_cases hl : 502 < b.length
  · rw [if_pos hl, if_pos (.inr hl)]; exact ⟨rfl, rfl⟩
  rw [if_neg hl] at hc ⊢
  rw [if_neg (show ¬ ((n < 2 ∨ (N : Int) ≤ n) ∨ 502 < b.length) from fun e => e.elim hn hl)]
  obtain ⟨k, rfl⟩ : ∃ k : Nat, n = (k : Int) := ⟨n.toNat, by omega⟩
  rw [h.st k (by omega) (by omega)] at hc ⊢
  by_cases hs : lst x.st (k : Int) ≠ 2 ∧ lst x.st (k : Int) ≠ 3
  · rw [if_pos hs, if_pos hs]; exact ⟨rfl, rfl⟩
  · rw [if_neg hs] at hc; exact absurd rfl hc
theorem DS.wrPage_safe {s : DS} (h : s.fset = false) (n : Nat) (b : List UInt8) : (s.wrPage n b).2 = true ∧ (s.wrPage n b).1.fset = false := DS.wrUpto_safe s n b h 4
theorem wrPage_keepK (s : DS) (n : Nat) (b : List UInt8) : (s.wrPage n b).1.keep = s.keep := by
  have : ∀ k, (s.wrUpto n b k).1.keep = s.keep := by
    intro k
    induction k with
    | zero => rfl
    | succ k ih =>
      rw [DS.wrUpto]
      split
      · exact (DS.writes_keep _ _ _).trans ih
      · exact ih
  exact this 4
theorem Sm.wrOk (h : Sm N B p s x) (hB : B < 100) {n : Nat} (b : List UInt8) (hc : p.wrChk s (n : Int) b.length = 0) :
    (s.wrPage n (pageOf n b)).2 = true ∧ (x.write (n : Int) b).2 = 0 ∧ Sm N (B + 1) { p with st := updS p.st (n : Int) 3, dead := p.dead || !(s.wrPage n (pageOf n b)).2 } (s.wrPage n (pageOf n b)).1 (x.write (n : Int) b).1 := by
  have hln := h.ln
  have hlens := h.lens
  have h22 := h.n22
  obtain ⟨ok, fs⟩ := DS.wrPage_safe h.fset n (pageOf n b)
  rw [h.chk] at hc
  unfold RX.write
  rw [h.xlen]
  by_cases hn : (n : Int) < 2 ∨ (N : Int) ≤ (n : Int)
  · rw [if_pos hn] at hc; cases hc
  rw [if_neg hn] at hc
  by_cases hl : 502 < b.length
  · rw [if_pos hl] at hc; cases hc
  rw [if_neg hl] at hc
  rw [if_neg (show ¬ (((n : Int) < 2 ∨ (N : Int) ≤ (n : Int)) ∨ 502 < b.length) from fun e => e.elim hn hl)]
  rw [h.st n (by omega) (by omega)] at hc
  by_cases hs : lst x.st (n : Int) ≠ 2 ∧ lst x.st (n : Int) ≠ 3
  · rw [if_pos hs] at hc; cases hc
  rw [if_neg hs, Int.toNat_natCast]
  rcases DS.wrPage_all (n := n) (b := pageOf n b) h.ddead h.syn (by omega) with ⟨_, W⟩ | ⟨h0, _⟩
  case inr => rw [ok] at h0; cases h0
  have hk := wrPage_keepK s n (pageOf n b)
  refine ⟨ok, rfl, ?_⟩
  have h' := h.setSt (k := n) (by omega) (by omega) 3
  rw [ok]
  generalize (s.wrPage n (pageOf n b)).1 = s' at fs W hk
  obtain ⟨a0, b0, a1, b1, e1, e2, e3, e4, e5, e6, e7, e8, e9, e10⟩ := h.ms
  refine { h' with dead := ?_, ddead := W.dead, fset := fs, keep := hk.trans h.keep, syn := W.syn, ln := by rw [W.lasts]; exact hln, lens := by rw [W.len, W.lasts]; exact hlens, ms := ⟨a0, b0, a1, b1, e1, e2, e3, e4, by omega, by omega, e7, e8, W.far (by omega) e9, W.far (by omega) e10⟩, wr := ?_, sq := ?_, b := by omega, waits := ?_, done := ?_ }
  · show (p.dead || !true) = false
    rw [h.dead]; rfl
  · intro m h2 hm
    show (∃ t, updP x.wrote (n : Int) b (m : Int) = some t ∧ _) ∨ updP x.wrote (n : Int) b (m : Int) = none ∧ _
    unfold updP
    by_cases e : m = n
    · subst e
      rw [if_pos rfl]
      exact .inl ⟨b, rfl, by omega, W.mine⟩
    · rw [if_neg (by omega)]
      rcases h.wr m h2 hm with ⟨t, q1, q2, q3⟩ | ⟨q1, q2⟩
      · exact .inl ⟨t, q1, q2, W.far e q3⟩
      · exact .inr ⟨q1, W.far e q2⟩
  · obtain ⟨q, h1, h2⟩ := h.sq; exact ⟨q, h1, by omega⟩
  · rw [W.waits, List.length_append, secs_len]; have := h.waits; omega
  · rw [W.done]; have := h.done; omega
theorem Sm.turn (h : Sm N B p s x) {took drop : Int} {st' : List Int} (ht : Turned took drop x.st st') : Sm N B { p with st := fun k => turnOf took drop (p.st k) } s { x with st := st' } :=
  { h with
    xlen := ht.1.trans h.xlen
    st := fun k h1 h2 => by
      show turnOf took drop (p.st (k : Int)) = lst st' (k : Int)
      rw [h.st k h1 h2, ht.2 k h1 (by rw [h.xlen]; exact h2)]
    out := fun k hk => by
      show turnOf took drop (p.st k) = 0
      rw [h.out k hk]; exact turnOf_zero _ _ }
theorem Sm.use (h : Sm N B p s x) {l : List Int} {a a' : Int} {p' : PS} {st' : List Int} (hu : UseAns p s l a p') (hr : RUse x l a' st') : a = a' ∧ Sm N B p' s { x with st := st' } := by
  have hg := h.gone
  have hbig : (∃ k, 1 < p.st k) ↔ ∃ k : Nat, 2 ≤ k ∧ k < x.st.length ∧ 1 < lst x.st (k : Int) := by
    rw [h.xlen]
    constructor
    · rintro ⟨k, hk⟩
      by_cases hr : k < 2 ∨ (N : Int) ≤ k
      · rw [h.out k hr] at hk; omega
      · obtain ⟨m, rfl⟩ : ∃ m : Nat, k = (m : Int) := ⟨k.toNat, by omega⟩
        exact ⟨m, by omega, by omega, by rw [← h.st m (by omega) (by omega)]; exact hk⟩
    · rintro ⟨k, h1, h2, h3⟩
      exact ⟨k, by rw [h.st k h1 h2]; exact h3⟩
  have hrange : (∃ n ∈ l, n < 2 ∨ (p.pages : Int) ≤ n) ↔ ∃ n ∈ l, n < 2 ∨ (x.st.length : Int) ≤ n := by rw [h.pages, h.xlen]
  have big : (∃ k, 1 < p.st k) → ∀ {P : Prop}, (∀ k : Nat, 2 ≤ k → k < x.st.length → lst x.st (k : Int) ≤ 1) → P := fun hb _ hb' => by
    obtain ⟨k, h1, h2, h3⟩ := hbig.1 hb
    have := hb' k h1 h2
    omega
  rcases hu with ⟨hh, _⟩ | ⟨_, ⟨hb, ea, ep⟩ | ⟨hb, hu⟩⟩
  · rw [hg] at hh; cases hh
  · rcases hr with ⟨_, ea', es⟩ | ⟨hb', _⟩
    · rw [ea, ea', ep, es]; exact ⟨rfl, h⟩
    · exact big hb hb'
  rcases hr with ⟨hb', _⟩ | ⟨_, hr⟩
  · obtain ⟨k, hk⟩ := hbig.2 hb'
    have := hb k; omega
  rcases hu with ⟨hx, ea, ep⟩ | ⟨hx, hu⟩
  · rcases hr with ⟨_, ea', es⟩ | ⟨hx', _⟩
    · rw [ea, ea', ep, es]; exact ⟨rfl, h⟩
    · obtain ⟨n, h1, h2⟩ := hrange.1 hx
      have := hx' n h1; omega
  rcases hr with ⟨hx', _⟩ | ⟨_, hr⟩
  · obtain ⟨n, h1, h2⟩ := hrange.2 hx'
    have := hx n h1; omega
  rcases hu with ⟨hnd, ea, ep⟩ | ⟨hnd, ea, ep⟩
  · rcases hr with ⟨_, ea', es⟩ | ⟨hnd', _⟩
    · rw [ea, ea', ep, es]; exact ⟨rfl, h⟩
    · exact absurd hnd' hnd
  · rcases hr with ⟨hnd', _⟩ | ⟨_, ea', hln, hst⟩
    · exact absurd hnd hnd'
    · rw [ea, ea', ep]
      refine ⟨rfl, { h with xlen := hln.trans h.xlen, st := fun k h1 h2 => ?_, out := fun k hk => ?_ }⟩
      · show usedOf l (k : Int) = lst st' (k : Int)
        rw [hst k h1 (by rw [h.xlen]; exact h2)]
      · show usedOf l k = 0
        unfold usedOf
        rw [if_neg (fun hm => by have := hx k hm; rw [h.pages] at this; omega)]
/-- A disk without a fuse that is formatted. -/
theorem fmt_facts {s : DS} (hd : s.dead = false) (hfs : s.fset = false) (hs : s.Syn) (hn : 12 ≤ s.shows.length) :
    s.fmt.dead = false ∧ s.fmt.fset = false ∧ s.fmt.keep = s.keep ∧ s.fmt.Syn ∧ s.fmt.lasts = s.fmt.shows ∧ s.fmt.shows.length = s.shows.length ∧ s.fmt.waits = [] ∧ s.fmt.done = s.done + 9 ∧ PgIs s.fmt.shows 0 (metaP 0 1 0) ∧ PgIs s.fmt.shows 1 (metaP 1 0 0) ∧ ∀ {m : Nat} {c : List UInt8}, 2 ≤ m → PgIs s.shows m c → PgIs s.fmt.shows m c := by
  obtain ⟨ok1, fs1⟩ := DS.wrPage_safe hfs 1 (metaP 1 0 0)
  rcases DS.wrPage_all (n := 1) (b := metaP 1 0 0) hd hs (by omega) with ⟨_, w1⟩ | ⟨h, _⟩
  case inr => rw [ok1] at h; cases h
  have k1 := wrPage_keepK s 1 (metaP 1 0 0)
  have e1 : s.fmt1 = (s.wrPage 1 (metaP 1 0 0)).1 := rfl
  rw [← e1] at w1 fs1 k1
  obtain ⟨ok2, fs2⟩ := DS.wrPage_safe fs1 0 (metaP 0 1 0)
  rcases DS.wrPage_all (s := s.fmt1) (n := 0) (b := metaP 0 1 0) w1.dead w1.syn (by rw [w1.len]; omega) with ⟨_, w2⟩ | ⟨h, _⟩
  case inr => rw [ok2] at h; cases h
  have k2 := wrPage_keepK s.fmt1 0 (metaP 0 1 0)
  have e2 : s.fmt2 = (s.fmt1.wrPage 0 (metaP 0 1 0)).1 := rfl
  rw [← e2] at w2 fs2 k2
  have hfl : s.fmt2.flushes.2 = 0 := by unfold DS.flushes; rw [if_neg (by rw [(DS.burnt_fset fs2).2]; decide)]
  have hff : s.fmt2.flushes.1.fset = false := by
    unfold DS.flushes
    rw [if_neg (by rw [(DS.burnt_fset fs2).2]; decide), (DS.burnt_fset fs2).1]
    exact fs2
  rcases DS.flushes_all w2.dead w2.syn with ⟨_, g1, g2, g3, g4, g5, g6, g7⟩ | ⟨h, _⟩
  case inr => exact absurd hfl h
  have e3 : s.fmt = s.fmt2.flushes.1 := rfl
  rw [← e3] at g1 g2 g3 g4 g5 g6 g7 hff
  refine ⟨g1, hff, by rw [g6.keep, k2, k1], g5, g2.trans g3.symm, by rw [g3, w2.len, w1.len], g4, by rw [g7, w2.done, w1.done], by rw [g3]; exact w2.mine, by rw [g3]; exact w2.far (by decide) w1.mine, fun hm hp => by rw [g3]; exact w2.far (by omega) (w1.far (by omega) hp)⟩
theorem commit_safe' {s : DS} (hfs : s.fset = false) (n : Nat) (b : List UInt8) : (s.commit n b).2 = true ∧ (s.commit n b).1.fset = false ∧ (s.commit n b).1.keep = s.keep := by
  obtain ⟨b1, b2⟩ := DS.burnt_fset hfs
  have hf0 : s.flushes = (s.flush, 0) := by unfold DS.flushes; rw [if_neg (by rw [b2]; decide), b1]
  have hfs1 : s.flush.fset = false := hfs
  obtain ⟨ok, fs⟩ := DS.wrPage_safe hfs1 n b
  obtain ⟨b3, b4⟩ := DS.burnt_fset fs
  have hf2 : (s.flush.wrPage n b).1.flushes = ((s.flush.wrPage n b).1.flush, 0) := by unfold DS.flushes; rw [if_neg (by rw [b4]; decide), b3]
  have hk := wrPage_keepK s.flush n b
  unfold DS.commit
  rw [hf0]
  simp only [ok, hf2]
  exact ⟨by simp, by simpa [DS.flush] using fs, by simpa [DS.flush] using hk⟩
theorem Sm.fmt (h : Sm N B p s x) (hB : B < 100) : Sm N (B + 1) ⟨s.lasts.length / 4, 1, 0, fun _ => 0, false⟩ s.fmt ⟨x.wrote, 1, 0, 0, 0, 1, 0, List.replicate x.st.length 0⟩ := by
  have hln := h.ln
  have hlens := h.lens
  have h3 := h.n3
  obtain ⟨f1, f2, f3, f4, f5, f6, f7, f8, f9, f10, f11⟩ := fmt_facts h.ddead h.fset h.syn (by omega)
  have hll : s.fmt.lasts.length = s.lasts.length := by rw [f5, f6, hlens]
  exact {
    n3 := h3, n22 := h.n22, pages := hln, dead := rfl, ddead := f1, fset := f2, keep := f3.trans h.keep, syn := f4
    ln := by rw [hll]; exact hln
    lens := by rw [f5]
    xlen := by show (List.replicate x.st.length (0 : Int)).length = N; rw [List.length_replicate]; exact h.xlen
    seq := rfl, root := rfl
    st := fun k h1 h2 => by
      show (0 : Int) = lst (List.replicate x.st.length 0) (k : Int)
      rw [lst_nat, List.getElem?_replicate]; split <;> rfl
    out := fun _ _ => rfl
    ms := ⟨1, 0, 0, 0, rfl, rfl, rfl, rfl, by omega, by omega, .inl rfl, .inl rfl, f9, f10⟩
    wr := fun n h1 h2 => by
      rcases h.wr n h1 h2 with ⟨t, q1, q2, q3⟩ | ⟨q1, q2⟩
      · exact .inl ⟨t, q1, q2, f11 h1 q3⟩
      · exact .inr ⟨q1, f11 h1 q2⟩
    sq := ⟨1, rfl, by omega⟩
    b := by omega
    waits := by rw [f7]; exact Nat.zero_le _
    done := by rw [f8]; have := h.done; omega }
theorem Sm.commit (h : Sm N B p s x) (hB : B < 100) {q root : Nat} (hq : x.seq = q) (hr : RootOk N root) {st' : List Int} (ht : Turned 1 0 x.st st') :
    (s.commit ((q + 1) % 2) (pageOf ((q + 1) % 2) (metaB (q + 1) root))).2 = true ∧ (s.commit ((q + 1) % 2) (pageOf ((q + 1) % 2) (metaB (q + 1) root))).1.waits = [] ∧
      Sm N (B + 1) (p.commit root) (s.commit ((q + 1) % 2) (pageOf ((q + 1) % 2) (metaB (q + 1) root))).1 { x.meta ((q + 1) % 2) ((q + 1 : Nat) : Int) (root : Int) with seq := ((q + 1 : Nat) : Int), root := (root : Int), st := st' } := by
  have hln := h.ln
  have hlens := h.lens
  have h3 := h.n3
  have h100 := h.b
  obtain ⟨q', hq', hqb⟩ := h.sq
  have eq : q' = q := by omega
  subst eq
  obtain ⟨ok, fs, hk⟩ := commit_safe' h.fset ((q' + 1) % 2) (pageOf ((q' + 1) % 2) (metaB (q' + 1) root))
  rcases DS.commit_all (n := (q' + 1) % 2) (b := pageOf ((q' + 1) % 2) (metaB (q' + 1) root)) h.ddead h.syn (by omega) with ⟨_, c2, c3, c4, c5, c6, c7, c8, c9, c10⟩ | ⟨c1, _⟩
  case inr => rw [ok] at c1; cases c1
  refine ⟨ok, c4, ?_⟩
  have hT := h.turn ht
  generalize (s.commit ((q' + 1) % 2) (pageOf ((q' + 1) % 2) (metaB (q' + 1) root))).1 = s' at fs hk c2 c3 c4 c5 c6 c7 c8 c9 c10
  obtain ⟨a0, b0, a1, b1, e1, e2, e3, e4, e5, e6, e7, e8, e9, e10⟩ := h.ms
  have hmeta : ∀ g : RX → RX, True := fun _ => trivial
  clear hmeta
  refine {
    n3 := h3, n22 := h.n22, pages := h.pages, dead := h.dead, ddead := c2, fset := fs, keep := hk.trans h.keep, syn := c5
    ln := by rw [c3, c9, hlens]; exact hln
    lens := by rw [c3]
    xlen := hT.xlen
    seq := by show p.seq + 1 = _; rw [h.seq, hq]; rfl
    root := rfl
    st := hT.st
    out := hT.out
    ms := ?_
    wr := ?_
    sq := ⟨q' + 1, rfl, by omega⟩
    b := by omega
    waits := by rw [c4]; exact Nat.zero_le _
    done := by rw [c10]; have := h.done; omega }
  · rcases (show (q' + 1) % 2 = 0 ∨ (q' + 1) % 2 = 1 by omega) with e | e
    · rw [e] at c6 c7 ⊢
      exact ⟨q' + 1, root, a1, b1, rfl, rfl, e3, e4, by omega, by omega, hr, e8, c6, c7 (by decide) e10⟩
    · rw [e] at c6 c7 ⊢
      exact ⟨a0, b0, q' + 1, root, e1, e2, rfl, rfl, by omega, by omega, e7, hr, c7 (by decide) e9, c6⟩
  · intro n h1 h2
    have hw : (x.meta ((q' + 1) % 2) ((q' + 1 : Nat) : Int) (root : Int)).wrote = x.wrote := by unfold RX.meta; split <;> rfl
    show (∃ t, (x.meta ((q' + 1) % 2) ((q' + 1 : Nat) : Int) (root : Int)).wrote (n : Int) = some t ∧ _) ∨ (x.meta ((q' + 1) % 2) ((q' + 1 : Nat) : Int) (root : Int)).wrote (n : Int) = none ∧ _
    rw [hw]
    rcases h.wr n h1 h2 with ⟨t, q1, q2, q3⟩ | ⟨q1, q2⟩
    · exact .inl ⟨t, q1, q2, c7 (by omega) q3⟩
    · exact .inr ⟨q1, c7 (by omega) q2⟩
/-- What is found when it is opened. -/
theorem Sm.best (h : Sm N B p s x) : s.best 2 = (if x.s0 < x.s1 then (x.s1, x.r1) else (x.s0, x.r0)) ∧ 0 ≤ x.s0 ∧ 0 ≤ x.s1 := by
  obtain ⟨a0, b0, a1, b1, e1, e2, e3, e4, e5, e6, e7, e8, e9, e10⟩ := h.ms
  have h22 := h.n22
  have h100 := h.b
  have m0 : s.metaA 0 = ((a0 : Int), (b0 : Int)) := by
    unfold DS.metaA
    rw [h.ln, DS.page_of e9 (metaP_len _ _ _)]
    exact metaOf_exact (by omega) (by unfold RootOk at e7; omega) e7
  have m1 : s.metaA 1 = ((a1 : Int), (b1 : Int)) := by
    unfold DS.metaA
    rw [h.ln, DS.page_of e10 (metaP_len _ _ _)]
    exact metaOf_exact (by omega) (by unfold RootOk at e8; omega) e8
  rw [best2, m0, m1, e1, e2, e3, e4]
  refine ⟨?_, by omega, by omega⟩
  unfold nxtM
  rw [if_pos (show (-1 : Int) < (a0 : Int) by omega)]
theorem Sm.opened (h : Sm N B p s x) {st' : List Int} (hl : st'.length = N) (hst : ∀ k : Nat, 2 ≤ k → k < N → lst st' (k : Int) = 1) :
    Sm N B ⟨s.lasts.length / 4, (s.best 2).1, (s.best 2).2, usedAll (s.lasts.length / 4), false⟩ s ⟨x.wrote, x.s0, x.s1, x.r0, x.r1, if x.s0 < x.s1 then x.s1 else x.s0, if x.s0 < x.s1 then x.r1 else x.r0, st'⟩ := by
  obtain ⟨hb, _, _⟩ := h.best
  obtain ⟨a0, b0, a1, b1, e1, e2, e3, e4, e5, e6, e7, e8, e9, e10⟩ := h.ms
  have hseq : ∃ q : Nat, (if x.s0 < x.s1 then x.s1 else x.s0) = (q : Int) ∧ q ≤ B + 1 := by
    split
    · exact ⟨a1, e3, e6⟩
    · exact ⟨a0, e1, e5⟩
  rw [h.ln]
  exact { h with
    pages := rfl, dead := rfl
    xlen := hl
    seq := by rw [hb]; show _ = if x.s0 < x.s1 then x.s1 else x.s0; split <;> rfl
    root := by rw [hb]; show _ = if x.s0 < x.s1 then x.r1 else x.r0; split <;> rfl
    st := fun k h1 h2 => by
      show usedAll N (k : Int) = lst st' (k : Int)
      rw [hst k h1 h2]
      unfold usedAll
      rw [if_pos (by omega)]
    out := fun k hk => by
      show usedAll N k = 0
      unfold usedAll
      rw [if_neg (by omega)]
    sq := hseq }
end
end Go.Proofs.YthdlljlcffokbaaDoor
