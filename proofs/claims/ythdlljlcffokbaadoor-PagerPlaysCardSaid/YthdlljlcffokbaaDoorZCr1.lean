/- Pages on a disk through writes, flushes and crashes, plainly. No condition. -/
import Derived.Test.YthdlljlcffokbaaDoorZPgr13
namespace Go.Proofs.YthdlljlcffokbaaDoor
open Go.RowKit

/-- Page n of these sectors is b. -/
def PgIs (l : List (List UInt8)) (n : Nat) (b : List UInt8) : Prop := ∀ k, k < 4 → l[n * 4 + k]? = some (sec b k)
section
variable {l : List (List UInt8)} {n : Nat} {b : List UInt8} {keep : List Bool} {torn : Int} {cut : Nat}
theorem PgIs.set_far (h : PgIs l n b) {i : Nat} (hi : i / 4 ≠ n) (x : List UInt8) : PgIs (l.set i x) n b := fun k hk => by
  rw [List.getElem?_set_ne (by omega)]; exact h k hk
theorem PgIs.one_far (h : PgIs l n b) {x : Nat × List UInt8} (hx : x.1 / 4 ≠ n) (k : Nat) : PgIs (crashOne keep torn cut k x l) n b := by
  unfold crashOne
  split
  · exact h.set_far hx _
  · split
    · exact h.set_far hx _
    · exact h
theorem PgIs.crash_far : ∀ (ws : List (Nat × List UInt8)) (k : Nat) {l : List (List UInt8)}, PgIs l n b → (∀ x ∈ ws, x.1 / 4 ≠ n) → PgIs (crashFrom keep torn cut k ws l) n b
  | [], _, _, h, _ => h
  | x :: ws, k, _, h, hw => PgIs.crash_far ws (k + 1) (h.one_far (hw x List.mem_cons_self) k) (fun y hy => hw y (List.mem_cons_of_mem _ hy))
theorem PgIs.flush_far : ∀ (ws : List (Nat × List UInt8)) {l : List (List UInt8)}, PgIs l n b → (∀ x ∈ ws, x.1 / 4 ≠ n) → PgIs (flushAll ws l) n b
  | [], _, h, _ => h
  | x :: ws, _, h, hw => PgIs.flush_far ws (h.set_far (hw x List.mem_cons_self) _) (fun y hy => hw y (List.mem_cons_of_mem _ hy))
end
theorem flushAll_snoc (i : Nat) (b : List UInt8) : ∀ (ws : List (Nat × List UInt8)) (l : List (List UInt8)), flushAll (ws ++ [(i, b)]) l = (flushAll ws l).set i b
  | [], _ => rfl
  | _ :: ws, _ => flushAll_snoc i b ws _
theorem crashFrom_snoc (keep : List Bool) (torn : Int) (cut : Nat) (x : Nat × List UInt8) : ∀ (ws : List (Nat × List UInt8)) (k : Nat) (l : List (List UInt8)), crashFrom keep torn cut k (ws ++ [x]) l = crashOne keep torn cut (k + ws.length) x (crashFrom keep torn cut k ws l)
  | [], _, _ => rfl
  | y :: ws, k, l => by
    show crashFrom keep torn cut (k + 1) (ws ++ [x]) _ = _
    rw [crashFrom_snoc keep torn cut x ws (k + 1), List.length_cons, show k + 1 + ws.length = k + (ws.length + 1) by omega]
    rfl
/-- What is shown is what lasts, with all that waits. -/
def DS.Syn (s : DS) : Prop := flushAll s.waits s.lasts = s.shows
theorem DS.Syn.put {s : DS} (h : s.Syn) (i : Nat) (b : List UInt8) : (s.put i b).Syn := by
  unfold DS.Syn DS.put
  rw [flushAll_snoc, show flushAll s.waits s.lasts = s.shows from h]
theorem DS.Syn.burnt {s : DS} (h : s.Syn) : s.burnt.Syn := by
  obtain ⟨e1, e2, e3, _⟩ := s.burnt_eq
  unfold DS.Syn; rw [e1, e2, e3]; exact h
/-- The first j sectors of a page, as writes. -/
def secs (n : Nat) (b : List UInt8) (j : Nat) : List (Nat × List UInt8) := (List.range j).map fun k => (n * 4 + k, sec b k)
theorem secs_succ (n : Nat) (b : List UInt8) (j : Nat) : secs n b (j + 1) = secs n b j ++ [(n * 4 + j, sec b j)] := by
  unfold secs; rw [List.range_succ, List.map_append]; rfl
theorem secs_len (n : Nat) (b : List UInt8) (j : Nat) : (secs n b j).length = j := by simp [secs]
theorem secs_at {n : Nat} {b : List UInt8} {j : Nat} (hj : j ≤ 4) : ∀ x ∈ secs n b j, x.1 / 4 = n := by
  intro x hx
  obtain ⟨k, hk, rfl⟩ := List.mem_map.1 hx
  have := List.mem_range.1 hk
  show (n * 4 + k) / 4 = n
  omega
/-- The disk's plan stays. -/
structure DS.Plan (s s' : DS) : Prop where
  keep : s'.keep = s.keep
  torn : s'.torn = s.torn
  cut : s'.cut = s.cut
theorem DS.Plan.refl (s : DS) : DS.Plan s s := ⟨rfl, rfl, rfl⟩
theorem DS.Plan.trans {s s1 s2 : DS} (h : DS.Plan s s1) (h' : DS.Plan s1 s2) : DS.Plan s s2 := ⟨h'.1.trans h.1, h'.2.trans h.2, h'.3.trans h.3⟩
theorem DS.Plan.burnt (s : DS) : DS.Plan s s.burnt := by
  obtain ⟨_, _, _, _, _, e1, e2, e3⟩ := s.burnt_eq
  exact ⟨e1, e2, e3⟩
/-- A page was written. -/
structure DS.Wrote (s s' : DS) (n : Nat) (b : List UInt8) (k : Nat) : Prop where
  dead : s'.dead = false
  syn : s'.Syn
  lasts : s'.lasts = s.lasts
  waits : s'.waits = s.waits ++ secs n b k
  mine : ∀ j, j < k → s'.shows[n * 4 + j]? = some (sec b j)
  far : ∀ {m : Nat} {c : List UInt8}, m ≠ n → PgIs s.shows m c → PgIs s'.shows m c
  plan : DS.Plan s s'
  len : s'.shows.length = s.shows.length
  done : s'.done = s.done + k
theorem DS.wrUpto_all {s : DS} {n : Nat} {b : List UInt8} (hd : s.dead = false) (hs : s.Syn) (hn : n * 4 + 4 ≤ s.shows.length) : ∀ k, k ≤ 4 →
    ((s.wrUpto n b k).2 = true ∧ DS.Wrote s (s.wrUpto n b k).1 n b k) ∨
    ((s.wrUpto n b k).2 = false ∧ (s.wrUpto n b k).1.dead = true ∧ ∃ j, j ≤ 4 ∧ (s.wrUpto n b k).1.lasts = crashFrom s.keep s.torn s.cut 0 (s.waits ++ secs n b j) s.lasts)
  | 0, _ => .inl ⟨rfl, hd, hs, rfl, (List.append_nil _).symm, fun j hj => absurd hj (Nat.not_lt_zero j), fun _ h => h, .refl _, rfl, rfl⟩
  | k + 1, hk => by
    rcases DS.wrUpto_all hd hs hn k (by omega) with ⟨h1, h⟩ | ⟨h1, h2, h3⟩
    case inr =>
      have e : s.wrUpto n b (k + 1) = s.wrUpto n b k := by rw [DS.wrUpto, h1]; rfl
      rw [e]
      exact .inr ⟨h1, h2, h3⟩
    have e : s.wrUpto n b (k + 1) = (((s.wrUpto n b k).1.writes (n * 4 + k) (sec b k)).1, decide (((s.wrUpto n b k).1.writes (n * 4 + k) (sec b k)).2 = 0)) := by rw [DS.wrUpto, if_pos h1]
    rw [e]
    generalize (s.wrUpto n b k).1 = t at h ⊢
    obtain ⟨e1, e2, e3, e4, e5, e6, e7, e8⟩ := t.burnt_eq
    rcases t.writes_res (n * 4 + k) (sec b k) with ⟨f1, _, f3⟩ | ⟨f1, _, f3⟩
    · rw [f1, f3]
      have hlt : n * 4 + k < t.shows.length := by rw [h.len]; omega
      refine .inl ⟨rfl, ⟨e5.trans h.dead, (h.syn.burnt.put _ _), ?_, ?_, ?_, ?_, ?_, ?_, ?_⟩⟩
      · exact e1.trans h.lasts
      · show t.burnt.waits ++ [_] = _
        rw [e3, h.waits, secs_succ, List.append_assoc]
      · intro j hj
        show (t.burnt.shows.set _ _)[_]? = _
        rw [e2]
        by_cases hjk : j = k
        · subst hjk; rw [List.getElem?_set_self hlt]
        · rw [List.getElem?_set_ne (by omega)]; exact h.mine j (by omega)
      · intro m c hm hp
        show PgIs (t.burnt.shows.set _ _) m c
        rw [e2]
        exact (h.far hm hp).set_far (by omega) _
      · exact h.plan.trans ⟨(DS.Plan.burnt t).keep, (DS.Plan.burnt t).torn, (DS.Plan.burnt t).cut⟩
      · show (t.burnt.shows.set _ _).length = _
        rw [List.length_set, e2, h.len]
      · show t.burnt.done + 1 = _
        rw [e4, h.done]; rfl
    · rw [f1, f3]
      refine .inr ⟨rfl, rfl, k + 1, hk, ?_⟩
      show crashFrom t.keep t.torn t.cut 0 (t.burnt.waits ++ [_]) t.burnt.lasts = _
      rw [h.plan.keep, h.plan.torn, h.plan.cut, e1, e3, h.lasts, h.waits, secs_succ, List.append_assoc]
theorem DS.wrPage_all {s : DS} {n : Nat} {b : List UInt8} (hd : s.dead = false) (hs : s.Syn) (hn : n * 4 + 4 ≤ s.shows.length) :
    ((s.wrPage n b).2 = true ∧ DS.Wrote s (s.wrPage n b).1 n b 4) ∨
    ((s.wrPage n b).2 = false ∧ (s.wrPage n b).1.dead = true ∧ ∃ j, j ≤ 4 ∧ (s.wrPage n b).1.lasts = crashFrom s.keep s.torn s.cut 0 (s.waits ++ secs n b j) s.lasts) := DS.wrUpto_all hd hs hn 4 (Nat.le_refl _)
theorem DS.flushes_all {s : DS} (hd : s.dead = false) (hs : s.Syn) :
    (s.flushes.2 = 0 ∧ s.flushes.1.dead = false ∧ s.flushes.1.lasts = s.shows ∧ s.flushes.1.shows = s.shows ∧ s.flushes.1.waits = [] ∧ s.flushes.1.Syn ∧ DS.Plan s s.flushes.1 ∧ s.flushes.1.done = s.done + 1) ∨
    (s.flushes.2 ≠ 0 ∧ s.flushes.1.dead = true ∧ s.flushes.1.lasts = crashFrom s.keep s.torn s.cut 0 s.waits s.lasts) := by
  obtain ⟨e1, e2, e3, e4, e5, e6, e7, e8⟩ := s.burnt_eq
  rcases s.flushes_res with ⟨f1, _, f3⟩ | ⟨f1, _, f3⟩
  · have hl : s.burnt.flush.lasts = s.shows := by
      show flushAll s.burnt.waits s.burnt.lasts = _
      rw [e1, e3]; exact hs
    rw [f1, f3]
    exact .inl ⟨rfl, e5.trans hd, hl, e2, rfl, by show s.burnt.flush.lasts = s.burnt.shows; rw [hl, e2], ⟨(DS.Plan.burnt s).keep, (DS.Plan.burnt s).torn, (DS.Plan.burnt s).cut⟩, by show s.burnt.done + 1 = _; rw [e4]⟩
  · rw [f1, f3]
    exact .inr ⟨by decide, rfl, rfl⟩
/-- What a commit comes to. -/
theorem DS.commit_all {s : DS} {n : Nat} {b : List UInt8} (hd : s.dead = false) (hs : s.Syn) (hn : n * 4 + 4 ≤ s.shows.length) :
    ((s.commit n b).2 = true ∧ (s.commit n b).1.dead = false ∧ (s.commit n b).1.lasts = (s.commit n b).1.shows ∧ (s.commit n b).1.waits = [] ∧ (s.commit n b).1.Syn ∧ PgIs (s.commit n b).1.shows n b ∧ (∀ {m : Nat} {c : List UInt8}, m ≠ n → PgIs s.shows m c → PgIs (s.commit n b).1.shows m c) ∧ DS.Plan s (s.commit n b).1 ∧ (s.commit n b).1.shows.length = s.shows.length ∧ (s.commit n b).1.done = s.done + 6) ∨
    ((s.commit n b).2 = false ∧ (s.commit n b).1.dead = true ∧ ((s.commit n b).1.lasts = crashFrom s.keep s.torn s.cut 0 s.waits s.lasts ∨ ∃ j, j ≤ 4 ∧ (s.commit n b).1.lasts = crashFrom s.keep s.torn s.cut 0 (secs n b j) s.shows)) := by
  rcases DS.flushes_all hd hs with ⟨f0, f1, f2, f3, f4, f5, f6, f7⟩ | ⟨f0, f1, f2⟩
  case inr =>
    have e : s.commit n b = (s.flushes.1, false) := by unfold DS.commit; rw [if_pos f0]
    rw [e]
    exact .inr ⟨rfl, f1, .inl f2⟩
  have e : s.commit n b = if (s.flushes.1.wrPage n b).2 then ((s.flushes.1.wrPage n b).1.flushes.1, decide ((s.flushes.1.wrPage n b).1.flushes.2 = 0)) else ((s.flushes.1.wrPage n b).1, false) := by
    unfold DS.commit; rw [if_neg (by rw [f0]; decide)]
  rw [e]
  generalize s.flushes.1 = t at f1 f2 f3 f4 f5 f6 f7
  have hpl : ∀ t' : DS, DS.Plan t t' → DS.Plan s t' := fun t' h => f6.trans h
  rcases DS.wrPage_all (n := n) (b := b) f1 f5 (by rw [f3]; exact hn) with ⟨g0, g⟩ | ⟨g0, g1, j, hj, g2⟩
  case inr =>
    rw [if_neg (by rw [g0]; decide)]
    refine .inr ⟨rfl, g1, .inr ⟨j, hj, ?_⟩⟩
    show (t.wrPage n b).1.lasts = _
    rw [g2, f6.keep, f6.torn, f6.cut, f4, f2]
    rfl
  rw [if_pos g0]
  generalize (t.wrPage n b).1 = u at g ⊢
  rcases DS.flushes_all g.dead g.syn with ⟨h0, h1, h2, h3, h4, h5, h6, h7⟩ | ⟨h0, h1, h2⟩
  case inr =>
    refine .inr ⟨by simpa using h0, h1, .inr ⟨4, Nat.le_refl _, ?_⟩⟩
    show u.flushes.1.lasts = _
    rw [h2, g.plan.keep, g.plan.torn, g.plan.cut, f6.keep, f6.torn, f6.cut, g.waits, g.lasts, f4, f2]
    rfl
  · refine .inl ⟨by simpa using h0, h1, h2.trans h3.symm, h4, h5, ?_, ?_, (f6.trans g.plan).trans h6, ?_, ?_⟩
    · show PgIs u.flushes.1.shows n b
      rw [h3]; exact g.mine
    · intro m c hm hp
      show PgIs u.flushes.1.shows m c
      rw [h3]; exact g.far hm (by rw [f3]; exact hp)
    · show u.flushes.1.shows.length = _
      rw [h3, g.len, f3]
    · show u.flushes.1.done = _
      rw [h7, g.done, f7]
theorem DS.page_of {s : DS} {n : Nat} {b : List UInt8} (h : PgIs s.shows n b) (hb : b.length = 512) : s.page n = b := by
  have e : ∀ k, k ≤ 4 → s.upto n k = b.take (k * 128) := by
    intro k
    induction k with
    | zero => intro _; simp [DS.upto]
    | succ k ih =>
      intro hk
      rw [DS.upto, ih (by omega), h k (by omega), Option.getD_some]
      unfold sec
      rw [show (k + 1) * 128 = k * 128 + 128 by omega, List.take_add]
  unfold DS.page
  rw [e 4 (Nat.le_refl _), List.take_of_length_le (by omega)]
end Go.Proofs.YthdlljlcffokbaaDoor
