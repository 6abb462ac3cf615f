/- The law PagerCrash, walked. No condition. -/
import Derived.Test.YthdlljlcffokbaaDoorZCr4
import Derived.Test.YthdlljlcffokbaaDoorZApart0
import Derived.Test.YthdlljlcffokbaaDoorZb8
import Derived.Test.YthdlljlcffokbaaDoorZb2
namespace Go.Proofs.YthdlljlcffokbaaDoor
open Go.RowKit

/-- A transaction that came in. -/
structure Txr where
  take : UInt8
  what : UInt8
  A : Option Addr
  c : Nat
  dr : List UInt8
  cm : Bool
def Txr.row (t : Txr) : List Value := [bv t.take, bv t.what, .slice t.A t.dr.length t.c, .bool t.cm]
def txs (l : List Txr) : List Value := (l.map Txr.row).flatten
theorem wrapU (a : Int) : ∃ U : Nat, IntKind.u64.wrap a = (U : Int) ∧ U < 18446744073709551616 :=
  ⟨(IntKind.u64.wrap a).toNat, by rw [IntKind.wrap_u64]; omega, by rw [IntKind.wrap_u64]; omega⟩
section
variable {P : Program} {e : Env} {w : World} {o : Oper}
theorem y_remU {t t' : Nat} {k : IntKind} {a b : Nat} {x y : Operand} (ho : o.op = .binOp .rem t x y t') (hx : ev e x = some (.int k (a : Int))) (hy : ev e y = some (.int k (b : Int))) (hb : 0 < b) : Y P e o w (.int k ((a % b : Nat) : Int)) := by
  have := y_rem (P := P) (w := w) ho hx hy (by omega) (by omega)
  rw [show ((a : Int) % (b : Int)) = ((a % b : Nat) : Int) from by omega] at this
  exact this
end
theorem PgAt.fuse {w w' : World} {Q : PL} {p : PS} {s s' : DS} {L' : DL} (h : PgAt w Q p s) (hf : FuTo w w' Q.L L' s') : PgAt w' { Q with L := L' } p s' := by
  have hgd := h.dk
  refine ⟨hf.dk, ?_, h.hm.fr hf.fr (fun e => h.gmL (.inl e)), fun hk b off e e' => ?_⟩
  · show Blk w' Q.gp 82 (p.cells L'.gd Q.gm)
    rw [hf.gd]; exact h.hd.fr hf.fr (fun e => h.gpL (.inl e))
  · have e' : b = Q.gp := e'
    have := hf.kA b off e
    have := h.hd.lt
    omega
theorem fuse_blocks {w w' : World} {L L' : DL} {s' : DS} (hf : FuTo w w' L L' s') (b : Nat) : L'.blocks b ↔ L.blocks b := by
  unfold DL.blocks; rw [hf.gd, hf.vl, hf.vs, hf.vw]
/-- What stands in memory. -/
structure Cm (w0 w : World) (Q : PL) (p : PS) (s : DS) (gl gx ml mx gP : Nat) (r r' : Nat) (f f' : Pgs) (pc : List Value) : Prop where
  pg : PgAt w Q p s
  own : ∀ b, Q.blocks b → w0.heap.size ≤ b
  fr : Fr0 w0 w
  la : Blk w gl 38 [.int .i64 (r : Int), .map (some ml)]
  nx : Blk w gx 38 [.int .i64 (r' : Int), .map (some mx)]
  mla : Mi w ml (strs f)
  mnx : Mi w mx (strs f')
  pln : Blk w gP 25 pc
  off : ∀ b, b = gl ∨ b = gx ∨ b = ml ∨ b = mx ∨ b = gP → ¬ Q.blocks b ∧ w0.heap.size ≤ b
  ne : gl ≠ gx
  kz : 0 < s.keep.length → ∀ b off, Q.L.kA = some ⟨b, off, none⟩ → b ≠ gl ∧ b ≠ gx
theorem blk_mi_ne {w : World} {g g' : Nat} {t : TypeId} {cs : List Value} {f : Int → Option Value} (h : Blk w g t cs) (h' : Mi w g' f) : g ≠ g' := by
  rintro rfl
  obtain ⟨es, cl, hm, _⟩ := h'
  unfold Blk at h
  rw [hm] at h
  cases h
section
variable {w0 w w' : World} {Q Q' : PL} {p p' : PS} {s s' : DS} {gl gx ml mx gP : Nat} {r r' : Nat} {f f' : Pgs} {pc : List Value}
theorem PgAt.frM {g : Nat} {f : Int → Option Value} (h : PgAt w Q p s) (hf : Fr (fun b => b = g) w w') (hm : Mi w g f) (hg : ¬ Q.blocks g) : PgAt w' Q p s :=
  ⟨h.dk.fr hf (fun _ hb e => hg (.inr (.inr (e ▸ hb)))) (fun hk b off e e' => by
      subst e'
      obtain ⟨b', off', e1, hc⟩ := h.dk.hk.2 hk
      rw [e] at e1
      injection e1 with e1; injection e1 with e1 e2 _; subst e1; subst e2
      have hlen : 0 < (boolsV s.keep).length := by simpa [boolsV] using hk
      have := hc 0 _ (List.getElem?_eq_getElem hlen)
      obtain ⟨es, cl, hmm, _⟩ := hm
      simp [World.cell?, hmm] at this),
    h.hd.fr hf (fun e => hg (.inl e.symm)), h.hm.fr hf (fun e => hg (.inr (.inl e.symm))), h.kp⟩
theorem PgAt.frC {g : Nat} (h : PgAt w Q p s) (hf : Fr (fun b => b = g) w w') (hg : ¬ Q.blocks g) (hk : 0 < s.keep.length → ∀ b off, Q.L.kA = some ⟨b, off, none⟩ → b ≠ g) : PgAt w' Q p s :=
  ⟨h.dk.fr hf (fun _ hb e => hg (.inr (.inr (e ▸ hb)))) hk, h.hd.fr hf (fun e => hg (.inl e.symm)), h.hm.fr hf (fun e => hg (.inr (.inl e.symm))), h.kp⟩
theorem Cm.lt (h : Cm w0 w Q p s gl gx ml mx gP r r' f f' pc) : ∀ b, b = gl ∨ b = gx ∨ b = ml ∨ b = mx ∨ b = gP → b < w.heap.size := by
  rintro _ (rfl | rfl | rfl | rfl | rfl)
  · exact h.la.lt
  · exact h.nx.lt
  · exact h.mla.lt
  · exact h.mnx.lt
  · exact h.pln.lt
theorem Cm.to (h : Cm w0 w Q p s gl gx ml mx gP r r' f f' pc) (h' : PgTo w w' Q Q' p' s') (hk : s'.keep = s.keep) : Cm w0 w' Q' p' s' gl gx ml mx gP r r' f f' pc where
  pg := h'.pg
  own := fun b hb => by
    rcases h'.bl b hb with hb | hb
    · exact h.own b hb
    · exact Nat.le_trans h.fr.size hb
  fr := h.fr.step h'.fr (fun b hb e => by have := h.own b e; omega)
  la := h.la.fr h'.fr (h.off gl (.inl rfl)).1
  nx := h.nx.fr h'.fr (h.off gx (.inr (.inl rfl))).1
  mla := h.mla.fr h'.fr (h.off ml (.inr (.inr (.inl rfl)))).1
  mnx := h.mnx.fr h'.fr (h.off mx (.inr (.inr (.inr (.inl rfl))))).1
  pln := h.pln.fr h'.fr (h.off gP (.inr (.inr (.inr (.inr rfl))))).1
  off := fun b hb => ⟨fun hq => by
    rcases h'.bl b hq with hq | hq
    · exact (h.off b hb).1 hq
    · have := h.lt b hb; omega, (h.off b hb).2⟩
  ne := h.ne
  kz := by rw [hk, h'.kA]; exact h.kz
theorem Cm.fr0 (h : Cm w0 w Q p s gl gx ml mx gP r r' f f' pc) (hf : Fr0 w w') : Cm w0 w' Q p s gl gx ml mx gP r r' f f' pc := h.to (.refl h.pg hf) rfl
/-- The next map was written. -/
theorem Cm.mapx {f2 : Pgs} (h : Cm w0 w Q p s gl gx ml mx gP r r' f f' pc) (hne : ml ≠ mx) (hf : Fr (fun b => b = mx) w w') (hm : Mi w' mx (strs f2)) : Cm w0 w' Q p s gl gx ml mx gP r r' f f2 pc where
  pg := h.pg.frM hf h.mnx (h.off mx (.inr (.inr (.inr (.inl rfl))))).1
  own := h.own
  fr := h.fr.step hf (fun b hb e => by have := (h.off mx (.inr (.inr (.inr (.inl rfl))))).2; omega)
  la := h.la.fr hf (fun e => blk_mi_ne h.la h.mnx e)
  nx := h.nx.fr hf (fun e => blk_mi_ne h.nx h.mnx e)
  mla := h.mla.fr hf hne
  mnx := hm
  pln := h.pln.fr hf (fun e => blk_mi_ne h.pln h.mnx e)
  off := h.off
  ne := h.ne
  kz := h.kz
/-- What goes through a map was written. -/
theorem Cm.iter {it n : Nat} {h0 : Int → Option Value} {todo : Int → Bool} {m1 : Nat} (h : Cm w0 w Q p s gl gx ml mx gP r r' f f' pc) (hf : Fr (fun b => b = it) w w') (hR : MiR w m1 it h0 todo n) (hq : ∀ b, Q.blocks b → b ≠ it) (ho : ∀ b, b = gl ∨ b = gx ∨ b = ml ∨ b = mx ∨ b = gP → b ≠ it) (h0' : w0.heap.size ≤ it) : Cm w0 w' Q p s gl gx ml mx gP r r' f f' pc where
  pg := ⟨h.pg.dk.fr hf (fun b hb e => hq b (.inr (.inr hb)) e) (fun hk b off e e' => by
      subst e'
      obtain ⟨b', off', e1, hc⟩ := h.pg.dk.hk.2 hk
      rw [e] at e1
      injection e1 with e1; injection e1 with e1 e2 _; subst e1; subst e2
      have hlen : 0 < (boolsV s.keep).length := by simpa [boolsV] using hk
      have := hc 0 _ (List.getElem?_eq_getElem hlen)
      obtain ⟨⟨_, _, _, _, _, _, _, hr, _⟩, _⟩ := hR
      simp [World.cell?, hr] at this),
    h.pg.hd.fr hf (fun e => hq _ (.inl rfl) e), h.pg.hm.fr hf (fun e => hq _ (.inr (.inl rfl)) e), h.pg.kp⟩
  own := h.own
  fr := h.fr.step hf (fun b hb e => by omega)
  la := h.la.fr hf (ho _ (.inl rfl))
  nx := h.nx.fr hf (ho _ (.inr (.inl rfl)))
  mla := h.mla.fr hf (ho _ (.inr (.inr (.inl rfl))))
  mnx := h.mnx.fr hf (ho _ (.inr (.inr (.inr (.inl rfl)))))
  pln := h.pln.fr hf (ho _ (.inr (.inr (.inr (.inr rfl)))))
  off := h.off
  ne := h.ne
  kz := h.kz
/-- The next state was written. -/
theorem Cm.setx {r2 m2 : Nat} {f2 : Pgs} (h : Cm w0 w Q p s gl gx ml mx gP r r' f f' pc) (hf : Fr (fun b => b = gx) w w') (hb : Blk w' gx 38 [.int .i64 (r2 : Int), .map (some m2)]) (hm : Mi w m2 (strs f2)) (ho : ¬ Q.blocks m2 ∧ w0.heap.size ≤ m2) : Cm w0 w' Q p s gl gx ml m2 gP r r2 f f2 pc where
  pg := h.pg.frC hf (h.off gx (.inr (.inl rfl))).1 (fun hk b off e => (h.kz hk b off e).2)
  own := h.own
  fr := h.fr.step hf (fun b hb e => by have := (h.off gx (.inr (.inl rfl))).2; omega)
  la := h.la.fr hf h.ne
  nx := hb
  mla := h.mla.fr hf (fun e => blk_mi_ne h.nx h.mla e.symm)
  mnx := hm.fr hf (fun e => blk_mi_ne h.nx hm e.symm)
  pln := h.pln.fr hf (h.pln.ne h.nx (by decide))
  off := fun b hb => by
    rcases hb with hb | hb | hb | hb | hb
    · exact h.off b (.inl hb)
    · exact h.off b (.inr (.inl hb))
    · exact h.off b (.inr (.inr (.inl hb)))
    · rw [hb]; exact ho
    · exact h.off b (.inr (.inr (.inr (.inr hb))))
  ne := h.ne
  kz := h.kz
/-- The last state is the next one. -/
theorem Cm.setl (h : Cm w0 w Q p s gl gx ml mx gP r r' f f' pc) (hf : Fr (fun b => b = gl) w w') (hb : Blk w' gl 38 [.int .i64 (r' : Int), .map (some mx)]) : Cm w0 w' Q p s gl gx mx mx gP r' r' f' f' pc where
  pg := h.pg.frC hf (h.off gl (.inl rfl)).1 (fun hk b off e => (h.kz hk b off e).1)
  own := h.own
  fr := h.fr.step hf (fun b hb e => by have := (h.off gl (.inl rfl)).2; omega)
  la := hb
  nx := h.nx.fr hf h.ne.symm
  mla := h.mnx.fr hf (fun e => blk_mi_ne h.la h.mnx e.symm)
  mnx := h.mnx.fr hf (fun e => blk_mi_ne h.la h.mnx e.symm)
  pln := h.pln.fr hf (h.pln.ne h.la (by decide))
  off := fun b hb => h.off b (by
    rcases hb with hb | hb | hb | hb | hb
    · exact .inl hb
    · exact .inr (.inl hb)
    · exact .inr (.inr (.inr (.inl hb)))
    · exact .inr (.inr (.inr (.inl hb)))
    · exact .inr (.inr (.inr (.inr hb))))
  ne := h.ne
  kz := h.kz
end
theorem DS.wrUpto_keep (s : DS) (n : Nat) (b : List UInt8) : ∀ k, (s.wrUpto n b k).1.keep = s.keep
  | 0 => rfl
  | k + 1 => by
    rw [DS.wrUpto]
    split
    · exact (DS.writes_keep _ _ _).trans (DS.wrUpto_keep s n b k)
    · exact DS.wrUpto_keep s n b k
theorem DS.wrPage_keep (s : DS) (n : Nat) (b : List UInt8) : (s.wrPage n b).1.keep = s.keep := DS.wrUpto_keep s n b 4
theorem DS.commit_keep (s : DS) (n : Nat) (b : List UInt8) : (s.commit n b).1.keep = s.keep := by
  unfold DS.commit
  split
  · exact s.flushes_keep
  · split
    · exact (DS.flushes_keep _).trans ((DS.wrPage_keep _ _ _).trans s.flushes_keep)
    · exact (DS.wrPage_keep _ _ _).trans s.flushes_keep
theorem DS.flushes_len (s : DS) : s.flushes.1.lasts.length = s.lasts.length := by
  rcases s.flushes_res with ⟨_, _, h⟩ | ⟨_, _, h⟩ <;> rw [h]
  · exact (flushAll_length ..).trans (congrArg List.length s.burnt_eq.1)
  · exact crashFrom_length ..
theorem DS.commit_len (s : DS) (n : Nat) (b : List UInt8) : (s.commit n b).1.lasts.length = s.lasts.length := by
  unfold DS.commit
  split
  · exact s.flushes_len
  · split
    · exact (DS.flushes_len _).trans ((DS.wrUpto_len _ _ _ 4).trans s.flushes_len)
    · exact (DS.wrUpto_len _ _ _ 4).trans s.flushes_len
def liveSt (f : Pgs) : Int → Int := fun k => if (f k).isSome then 1 else 0
theorem state_built (g : Nat) : Tryd.prog.built 38 [(1, .map (some g))] = some #[.int .i64 0, .map (some g)] := by kernel_rfl
theorem state_zero : (Tryd.prog.info? 38).map (·.zero) = some (some (.agg #[.int .i64 0, .map none])) := by kernel_rfl
theorem state_size : (Tryd.prog.info? 38).map (·.size) = some 2 := by kernel_rfl
theorem flat_cellT {m : Nat} {rows : List (List Value)} (ha : All m rows) {k j : Nat} {r : List Value} {v : Value} (hk : rows[k]? = some r) (hj : r[j]? = some v) : rows.flatten[k * m + j]? = some v := by
  have hr := flat_at ha hk
  have hjm : j < m := by have h1 := (List.getElem?_eq_some_iff.1 hj).1; rw [ha r (List.mem_of_getElem? hk)] at h1; exact h1
  rw [← hr, List.getElem?_take_of_lt hjm, List.getElem?_drop] at hj
  exact hj
theorem rd_rowT {w : World} {b off n m : Nat} {rows : List (List Value)} (h : Rd w (some ⟨b, off, none⟩) n rows.flatten) (ha : All m rows) {k j : Nat} {r : List Value} {v : Value} (hk : rows[k]? = some r) (hj : r[j]? = some v) : Cell w.heap b (off + k * m + j) v := by
  have hc := flat_cellT ha hk hj
  have hn : 0 < n := by rw [← h.1]; have := (List.getElem?_eq_some_iff.1 hc).1; omega
  obtain ⟨b', off', e, hh⟩ := h.2 hn
  injection e with e; injection e with e1 e2 _
  subst e1 e2
  rw [Nat.add_assoc]
  exact Cell.of (hh _ _ hc)
theorem all_tx (l : List Txr) : All 4 (l.map Txr.row) := by
  intro r hr
  obtain ⟨t, _, rfl⟩ := List.mem_map.1 hr
  rfl
theorem tx_cells {w : World} {A : Option Addr} {l : List Txr} {i : Nat} {t : Txr} (h : Rd w A (l.length * 4) (txs l)) (hi : l[i]? = some t) : ∃ b off, A = some ⟨b, off, none⟩ ∧ Cell w.heap b (off + i * 4 + 0) (.int .u8 (t.take.toNat : Int)) ∧ Cell w.heap b (off + i * 4 + 1) (.int .u8 (t.what.toNat : Int)) ∧ Cell w.heap b (off + i * 4 + 2) (.slice t.A t.dr.length t.c) ∧ Cell w.heap b (off + i * 4 + 3) (.bool t.cm) := by
  have hk' : (l.map Txr.row)[i]? = some t.row := by rw [List.getElem?_map, hi]; rfl
  have hl := (List.getElem?_eq_some_iff.1 hi).1
  obtain ⟨b, off, rfl, _⟩ := h.2 (by omega)
  exact ⟨b, off, rfl, rd_rowT h (all_tx l) hk' rfl, rd_rowT h (all_tx l) hk' rfl, rd_rowT h (all_tx l) hk' rfl, rd_rowT h (all_tx l) hk' rfl⟩
theorem rd_byteT {w : World} {A : Option Addr} {n : Nat} {l : List UInt8} (hr : Rd w A n (bvs l)) {i : Nat} {c : UInt8} (hx : l[i]? = some c) : ∃ b off, A = some ⟨b, off, none⟩ ∧ Cell w.heap b (off + i * 1) (.int .u8 (c.toNat : Int)) := by
  have hi := (List.getElem?_eq_some_iff.1 hx).1
  have hn : l.length = n := by rw [← bvs_length, hr.1]
  obtain ⟨b, off, e, hc⟩ := hr.2 (by omega)
  refine ⟨b, off, e, Cell.of ?_⟩
  rw [Nat.mul_one]
  exact hc i _ (by unfold bvs; rw [List.getElem?_map, hx]; rfl)
theorem str_zero : (Tryd.prog.info? 9).map (·.zero) = some (some (str [])) := by kernel_rfl
section
variable {e : Env} {w : World} {o : Oper} {x i : Operand} {g : Nat} {k : Int} {f : Pgs}
theorem y_lookS_ok (ho : o.op = .lookup 36 x i true) (hx : ev e x = some (.map (some g))) (hi : ev e i = some (.int .i64 k)) (h : Mi w g (strs f)) {t : List UInt8} (ht : f k = some t) : Y Tryd.prog e o w (.tuple #[str t, .bool true]) := by
  have := y_lookI (ok := true) ho hx hi Tryd.underlying36 Tryd.underlying3 str_zero h
  unfold strs at this
  rw [ht] at this
  exact this
theorem y_lookS_no (ho : o.op = .lookup 36 x i true) (hx : ev e x = some (.map (some g))) (hi : ev e i = some (.int .i64 k)) (h : Mi w g (strs f)) (ht : f k = none) : Y Tryd.prog e o w (.tuple #[str [], .bool false]) := by
  have := y_lookI (ok := true) ho hx hi Tryd.underlying36 Tryd.underlying3 str_zero h
  unfold strs at this
  rw [ht] at this
  exact this
theorem y_lookS (ho : o.op = .lookup 36 x i false) (hx : ev e x = some (.map (some g))) (hi : ev e i = some (.int .i64 k)) (h : Mi w g (strs f)) {t : List UInt8} (ht : f k = some t) : Y Tryd.prog e o w (str t) := by
  have := y_lookI (ok := false) ho hx hi Tryd.underlying36 Tryd.underlying3 str_zero h
  unfold strs at this
  rw [ht] at this
  exact this
theorem y_seql_t {P : Program} {y : Operand} {t t' : Nat} {a b : List UInt8} (ho : o.op = .binOp .eql t x y t') (hx : ev e x = some (str a)) (hy : ev e y = some (str b)) (h : a = b) : Y P e o w (.bool true) := by
  have := y_seql (P := P) (w := w) ho hx hy
  rw [decide_eq_true h] at this; exact this
end
theorem at_in {p : PS} {s : DS} {n : Int} (hg : p.gone s = false) (h1 : 2 ≤ n) (h2 : n < p.pages) : p.at_ s n = (p.st n, 0) := by
  unfold PS.at_; rw [hg, if_neg (by decide), if_neg (by omega)]
theorem drop_1 {w : World} {Q : PL} {p : PS} {s : DS} (h : PgAt w Q p s) {n : Int} (hg : p.gone s = false) (h1 : 2 ≤ n) (h2 : n < p.pages) (hs : p.st n = 1) : Calls Tryd.prog 11 #[.pointer (some ⟨Q.gp, 0, none⟩), .int .i64 n] w fun e w' => e = .returned (.int .i64 0) ∧ PgTo w w' Q Q { p with st := updS p.st n 4 } s := by
  have := drop_any h n
  have e : p.drop s n = ({ p with st := updS p.st n 4 }, 0) := by unfold PS.drop; rw [at_in hg h1 h2, hs]; simp
  rw [e] at this; exact this
theorem wrChk_in {p : PS} {s : DS} {n : Int} {len : Nat} (hg : p.gone s = false) (h1 : 2 ≤ n) (h2 : n < p.pages) (hl : len ≤ 502) (hs : p.st n = 2) : p.wrChk s n len = 0 := by
  unfold PS.wrChk; rw [at_in hg h1 h2, if_neg (show ¬ (0 : Int) ≠ 0 by decide), if_neg (by omega), hs]; rfl
def updP (f : Pgs) (k : Int) (t : List UInt8) : Pgs := fun x => if x = k then some t else f x
def delP (f : Pgs) (k : Int) : Pgs := fun x => if x = k then none else f x
theorem strs_upd (f : Pgs) (k : Int) (t : List UInt8) : upd (strs f) k (str t) = strs (updP f k t) := by
  funext x; unfold upd strs updP; split <;> rfl
theorem strs_del (f : Pgs) (k : Int) : del (strs f) k = strs (delP f k) := by
  funext x; unfold del strs delP; split <;> rfl
/-- The pager on a disk that lives. -/
def Alv (p : PS) (s : DS) (r : Nat) (f : Pgs) (i : Nat) : Prop := ∃ sq qo qc rc : Nat, p = ⟨20, (sq : Int), (r : Int), liveSt f, false⟩ ∧ DGood s sq r qo qc rc f ∧ sq ≤ i + 1 ∧ s.waits.length ≤ 100 * i ∧ s.done ≤ 9 + 100 * i
/-- A disk that is dead, and what it holds. -/
def Fin4 (s : DS) (r r' : Nat) (f f' : Pgs) : Prop := s.dead = true ∧ s.lasts.length = 80 ∧ (Holds s.lasts r f ∨ Holds s.lasts r' f')
/-- How the pages stand within a transaction. -/
structure Txs (f g : Pgs) (st : Int → Int) : Prop where
  old : ∀ k, f k ≠ none → (st k = 1 ∧ g k = f k) ∨ (st k = 4 ∧ g k = none)
  new : ∀ k, f k = none → (st k = 0 ∧ g k = none) ∨ (st k = 3 ∧ g k ≠ none)
/-- How things stand while pages are taken. -/
def Tk (f : Pgs) (sq r qo qc rc m : Nat) (p : PS) (s : DS) (root : Nat) (g : Pgs) : Prop :=
  (∃ st, p = ⟨20, (sq : Int), (r : Int), st, false⟩ ∧ DGood s sq r qo qc rc f ∧ Txs f g st ∧ Kept s.shows g ∧ (root = 0 ∨ st (root : Int) = 3) ∧ s.waits.length ≤ m ∧ s.done ≤ 9 + m) ∨ (s.dead = true ∧ s.lasts.length = 80 ∧ Holds s.lasts r f)
theorem Tk.mono {f : Pgs} {sq r qo qc rc m m' : Nat} {p : PS} {s : DS} {root : Nat} {g : Pgs} (h : Tk f sq r qo qc rc m p s root g) (hm : m ≤ m') : Tk f sq r qo qc rc m' p s root g := by
  rcases h with ⟨st, h1, h2, h3, h4, h5, h6, h7⟩ | h
  · exact .inl ⟨st, h1, h2, h3, h4, h5, by omega, by omega⟩
  · exact .inr h
theorem Txs.start (f : Pgs) : Txs f f (liveSt f) := ⟨fun k h => .inl ⟨by
  unfold liveSt
  cases hf : f k with
  | none => exact absurd hf h
  | some _ => rfl, rfl⟩, fun k h => .inl ⟨by unfold liveSt; rw [h]; rfl, h⟩⟩
theorem Txs.drop {f g : Pgs} {st : Int → Int} (h : Txs f g st) {n : Int} (hn : st n = 1) : Txs f (delP g n) (updS st n 4) := by
  constructor
  · intro k hk
    unfold delP updS
    by_cases e : k = n
    · rw [if_pos e, if_pos e]; exact .inr ⟨rfl, rfl⟩
    · rw [if_neg e, if_neg e]; exact h.old k hk
  · intro k hk
    unfold delP updS
    by_cases e : k = n
    · subst e
      rcases h.new k hk with ⟨h1, _⟩ | ⟨h1, _⟩ <;> omega
    · rw [if_neg e, if_neg e]; exact h.new k hk
theorem Txs.put {f g : Pgs} {st : Int → Int} (h : Txs f g st) {n : Int} (hn : st n = 0) (t : List UInt8) : f n = none ∧ Txs f (updP g n t) (updS (updS st n 2) n 3) := by
  have hf : f n = none := by
    cases hf : f n with
    | none => rfl
    | some _ => rcases h.old n (by rw [hf]; intro e; cases e) with ⟨h1, _⟩ | ⟨h1, _⟩ <;> omega
  refine ⟨hf, fun k hk => ?_, fun k hk => ?_⟩
  · unfold updP updS
    by_cases e : k = n
    · subst e; exact absurd hf hk
    · rw [if_neg e, if_neg e, if_neg e]; exact h.old k hk
  · unfold updP updS
    by_cases e : k = n
    · rw [if_pos e, if_pos e]; exact .inr ⟨rfl, by intro e; cases e⟩
    · rw [if_neg e, if_neg e, if_neg e]; exact h.new k hk
theorem Txs.undo {f g : Pgs} {st : Int → Int} (h : Txs f g st) : (fun k => turnOf 0 1 (st k)) = liveSt f := by
  funext k
  unfold liveSt
  cases hf : f k with
  | none => rcases h.new k hf with ⟨e, _⟩ | ⟨e, _⟩ <;> rw [e] <;> rfl
  | some t => rcases h.old k (by rw [hf]; intro e; cases e) with ⟨e, _⟩ | ⟨e, _⟩ <;> rw [e] <;> rfl
theorem Txs.done {f g : Pgs} {st : Int → Int} (h : Txs f g st) : (fun k => turnOf 1 0 (st k)) = liveSt g := by
  funext k
  unfold liveSt
  cases hf : f k with
  | none =>
    rcases h.new k hf with ⟨e, h2⟩ | ⟨e, h2⟩
    · rw [e, h2]; rfl
    · rw [e]
      cases hg : g k with
      | none => exact absurd hg h2
      | some _ => rfl
  | some t =>
    rcases h.old k (by rw [hf]; intro e; cases e) with ⟨e, h2⟩ | ⟨e, h2⟩
    · rw [e, h2, hf]; rfl
    · rw [e, h2]; rfl
/-- What is read of pages that are kept. -/
theorem read_kept {s : DS} {f : Pgs} (h : Kept s.shows f) (hd : s.dead = false) {q r : Int} {n : Int} {t : List UInt8} (ht : f n = some t) : PS.readA ⟨20, q, r, usedAll 20, false⟩ s n = (0, t) := by
  obtain ⟨h1, h2, h3, h4⟩ := h n t ht
  have hat : PS.at_ ⟨20, q, r, usedAll 20, false⟩ s n = (1, 0) := by
    unfold PS.at_ PS.gone
    rw [hd, if_neg (show ¬ (false || false) = true by decide), if_neg (by show ¬ (n < 2 ∨ ((20 : Nat) : Int) ≤ n); omega)]
    show (usedAll 20 n, (0 : Int)) = _
    unfold usedAll
    rw [if_pos (by omega)]
  unfold PS.readA
  rw [hat, if_neg (by decide), if_neg (show ¬ usedAll 20 n = 0 by unfold usedAll; rw [if_pos (by omega)]; decide), if_neg (show ¬ usedAll 20 n = 2 by unfold usedAll; rw [if_pos (by omega)]; decide),
    DS.page_of h4 (pageOf_length _ _ h3), decA_ok (page_ok _ _ h3), page_long _ _ h3, page_out]
set_option maxHeartbeats 64000000 in
theorem crash_walk (A : Option Addr) (c : Nat) (l : List Txr) (fz : Int) (kA : Option Addr) (kc : Nat) (keep : List Bool) (torn cut : Int) (w : World) (hl : Rd w A (l.length * 4) (txs l)) (hdr : ∀ t ∈ l, Rd w t.A t.dr.length (bvs t.dr)) (hk : Rd w kA keep.length (boolsV keep)) (hN : kA = none → kc = 0) (hkm : keep.length ≤ 140737488351232) :
    Calls Tryd.prog 3 #[.slice A l.length c, .int .i64 fz, .agg #[.slice kA keep.length kc, .int .i64 torn, .int .i64 cut]] w fun e w' => e = .returned (.bool true) ∧ Fr0 w w' := by
  obtain ⟨U, hU, hU2⟩ := wrapU fz
  obtain ⟨K, hK⟩ : ∃ K, K = U % 200 := ⟨_, rfl⟩
  have hKw : IntKind.i64.wrap (K : Int) = (K : Int) := by rw [IntKind.wrap_i64]; omega
  have e200 : ((200 : Nat) : Int) = 200 := rfl
  refine sx_enter (vs := [_, _, _]) Tryd.func3 rfl Tryd.ntmps3 rfl ?_
  refine sx_seq ?_
  refine sx_region ?_
  refine sxl_does (some 5) (wn_none rfl) rfl rfl (fun ρ hρ => does_box 25 (.tmp 2) rfl [.slice kA keep.length kc, .int .i64 torn, .int .i64 cut] (by rw [hρ _ _ rfl]; rfl)) ?_
  rintro _ w1 ⟨gP, rfl, hP1, hP2, hbP, hf1⟩
  have c2 : Cell w1.heap gP 2 (.int .i64 cut) := hbP.c 2 rfl
  refine sxl_y (wn_none rfl) rfl rfl (yp rfl) ?_
  refine sxl_nil ?_
  refine qx_seq ?_
  refine sx_seq ?_
  refine sx_seq ?_
  refine sx_region ?_
  refine sxl_call (some 30) (by first | exact wn_none rfl | exact wn_on rfl rfl rfl) rfl rfl (yc_call rfl rfl Tryd.call6) (awake_calls w1) ?_
  rintro _ w2 ⟨rfl, hf2⟩
  refine ⟨_, rfl, ?_⟩
  refine sxl_y (wn_none rfl) rfl rfl (yp rfl) ?_
  refine sxl_nil ?_
  refine qx_seq ?_
  refine sx_false rfl ?_
  refine sx_skip ?_
  refine qx_seq ?_
  refine sx_seq ?_
  refine sx_region ?_
  have hnew := new_ok 80 w2 (by decide) (by decide)
  rw [show ((80 : Nat) : Int) = 80 from rfl] at hnew
  refine sxl_call (some 33) (by first | exact wn_none rfl | exact wn_on rfl rfl rfl) rfl rfl (yc_call rfl rfl Tryd.call7) (hnew) ?_
  rintro _ w3 ⟨L, rfl, hdk, hLn, hf3⟩
  refine ⟨_, rfl, ?_⟩
  clear hnew
  have hlen : (newDS 80).lasts.length = 80 := by simp [newDS]
  refine sxl_y (wn_none rfl) rfl rfl (yp rfl) ?_
  refine sxl_y (wn_none rfl) rfl rfl (yp rfl) ?_
  refine sxl_y (wn_none rfl) rfl rfl (yp rfl) ?_
  refine sxl_y (wn_none rfl) rfl rfl (yp rfl) ?_
  refine sxl_y (wn_none rfl) rfl rfl (yp rfl) ?_
  refine sxl_nil ?_
  refine qx_seq ?_
  refine sx_seq ?_
  refine sx_seq ?_
  refine sx_region ?_
  refine sxl_y (wn_none rfl) rfl rfl (yp rfl) ?_
  refine sxl_y (wn_none rfl) rfl rfl (y_neq_f rfl rfl rfl (by omega)) ?_
  refine sxl_nil ?_
  refine qx_seq ?_
  refine sx_false rfl ?_
  refine sx_skip ?_
  refine qx_seq ?_
  refine sx_seq ?_
  refine sx_region ?_
  refine sxl_y (wn_none rfl) rfl rfl (yp rfl) ?_
  refine sxl_call (some 40) (by first | exact wn_none rfl | exact wn_on rfl rfl rfl) rfl rfl (yc_call rfl rfl Tryd.call8) (format_ok L hdk rfl rfl (by rw [hlen]; decide) (by simp [newDS]) (by simp [newDS])) ?_
  rintro _ w4 ⟨Q, rfl, hnew⟩
  refine ⟨_, rfl, ?_⟩
  rw [hlen] at hnew
  have hgdq := hnew.gd
  have hz1 := hf1.size
  have hz2 := hf2.size
  have hz3 := hf3.size
  have hz4 := hnew.fr.size
  have hf04 : Fr (fun b => w.heap.size ≤ b) w w4 := (Fr.of0 ((hf1.trans hf2).trans hf3)).step hnew.fr (fun b hb e => by have := hLn b e; omega)
  have hfr04 : Fr0 w w4 := (Fr.refl : Fr0 w w).step hf04 (fun b hb e => by omega)
  have hbP4 : Blk w4 gP 25 [.slice kA keep.length kc, .int .i64 torn, .int .i64 cut] := (hbP.fr0 (hf2.trans hf3)).fr hnew.fr (fun hq => by have := hLn gP hq; omega)
  have c2 : Cell w4.heap gP 2 (.int .i64 cut) := hbP4.c 2 rfl
  by_cases hc0 : cut < 0
  · refine sxl_y (wn_none rfl) rfl rfl (yp rfl) ?_
    refine sxl_y (wn_none rfl) rfl rfl (yp rfl) ?_
    refine sxl_y (wn_none rfl) rfl rfl (yp rfl) ?_
    refine sxl_y (wn_none rfl) rfl rfl (yp rfl) ?_
    refine sxl_y (wn_none rfl) rfl rfl (yp rfl) ?_
    refine sxl_nil ?_
    refine qx_seq ?_
    refine sx_seq ?_
    refine sx_seq ?_
    refine sx_region ?_
    refine sxl_y (wn_none rfl) rfl rfl (yp rfl) ?_
    refine sxl_y (wn_none rfl) rfl rfl (y_neq_f rfl rfl rfl (by omega)) ?_
    refine sxl_y (wn_none rfl) rfl rfl (yp rfl) ?_
    refine sxl_y (wn_on rfl rfl rfl) rfl rfl (yp rfl) ?_
    refine sxl_y (wn_on rfl rfl rfl) rfl rfl (y_load rfl rfl (sc rfl) (by assumption)) ?_
    refine sxl_y (wn_on rfl rfl rfl) rfl rfl (y_lss_t rfl rfl rfl (by omega)) ?_
    refine sxl_y (wn_none rfl) rfl rfl (yp rfl) ?_
    refine sxl_y (wn_none rfl) rfl rfl (yp rfl) ?_
    refine sxl_off rfl rfl rfl rfl rfl rfl ?_
    refine sxl_off rfl rfl rfl rfl rfl rfl ?_
    refine sxl_off rfl rfl rfl rfl rfl rfl ?_
    refine sxl_y (wn_none rfl) rfl rfl (yp rfl) ?_
    refine sxl_y (wn_none rfl) rfl rfl (yp rfl) ?_
    refine sxl_off rfl rfl rfl rfl rfl rfl ?_
    refine sxl_off rfl rfl rfl rfl rfl rfl ?_
    refine sxl_off rfl rfl rfl rfl rfl rfl ?_
    refine sxl_off rfl rfl rfl rfl rfl rfl ?_
    refine sxl_off rfl rfl rfl rfl rfl rfl ?_
    refine sxl_off rfl rfl rfl rfl rfl rfl ?_
    refine sxl_off rfl rfl rfl rfl rfl rfl ?_
    refine sxl_off rfl rfl rfl rfl rfl rfl ?_
    refine sxl_y (wn_none rfl) rfl rfl (yp rfl) ?_
    refine sxl_nil ?_
    refine qx_seq ?_
    refine sx_true rfl ?_
    refine sx_seq ?_
    refine sx_region ?_
    refine sxl_y (wn_none rfl) rfl rfl (yp rfl) ?_
    refine sxl_y (wn_none rfl) rfl rfl (y_load rfl rfl (sc rfl) (by assumption)) ?_
    refine sxl_y (wn_none rfl) rfl rfl (y_lss_t rfl rfl rfl (by omega)) ?_
    refine sxl_y (wn_none rfl) rfl rfl (yp rfl) ?_
    refine sxl_off rfl rfl rfl rfl rfl rfl ?_
    refine sxl_off rfl rfl rfl rfl rfl rfl ?_
    refine sxl_off rfl rfl rfl rfl rfl rfl ?_
    refine sxl_y (wn_none rfl) rfl rfl (yp rfl) ?_
    refine sxl_y (wn_none rfl) rfl rfl (yp rfl) ?_
    refine sxl_nil ?_
    refine qx_seq ?_
    refine sx_ret ?_
    refine qx_then_ret ?_
    refine qx_ret1 rfl rfl ?_
    exact ⟨rfl, hfr04⟩
  by_cases hc1 : 128 < cut
  · refine sxl_y (wn_none rfl) rfl rfl (yp rfl) ?_
    refine sxl_y (wn_none rfl) rfl rfl (yp rfl) ?_
    refine sxl_y (wn_none rfl) rfl rfl (yp rfl) ?_
    refine sxl_y (wn_none rfl) rfl rfl (yp rfl) ?_
    refine sxl_y (wn_none rfl) rfl rfl (yp rfl) ?_
    refine sxl_nil ?_
    refine qx_seq ?_
    refine sx_seq ?_
    refine sx_seq ?_
    refine sx_region ?_
    refine sxl_y (wn_none rfl) rfl rfl (yp rfl) ?_
    refine sxl_y (wn_none rfl) rfl rfl (y_neq_f rfl rfl rfl (by omega)) ?_
    refine sxl_y (wn_none rfl) rfl rfl (yp rfl) ?_
    refine sxl_y (wn_on rfl rfl rfl) rfl rfl (yp rfl) ?_
    refine sxl_y (wn_on rfl rfl rfl) rfl rfl (y_load rfl rfl (sc rfl) (by assumption)) ?_
    refine sxl_y (wn_on rfl rfl rfl) rfl rfl (y_lss_f rfl rfl rfl (by omega)) ?_
    refine sxl_y (wn_none rfl) rfl rfl (yp rfl) ?_
    refine sxl_y (wn_none rfl) rfl rfl (yp rfl) ?_
    refine sxl_y (wn_on rfl rfl rfl) rfl rfl (yp rfl) ?_
    refine sxl_y (wn_on rfl rfl rfl) rfl rfl (y_load rfl rfl (sc rfl) (by assumption)) ?_
    refine sxl_y (wn_on rfl rfl rfl) rfl rfl (y_gtr_t rfl rfl rfl (by omega)) ?_
    refine sxl_y (wn_none rfl) rfl rfl (yp rfl) ?_
    refine sxl_y (wn_none rfl) rfl rfl (yp rfl) ?_
    refine sxl_off rfl rfl rfl rfl rfl rfl ?_
    refine sxl_off rfl rfl rfl rfl rfl rfl ?_
    refine sxl_off rfl rfl rfl rfl rfl rfl ?_
    refine sxl_off rfl rfl rfl rfl rfl rfl ?_
    refine sxl_off rfl rfl rfl rfl rfl rfl ?_
    refine sxl_off rfl rfl rfl rfl rfl rfl ?_
    refine sxl_off rfl rfl rfl rfl rfl rfl ?_
    refine sxl_off rfl rfl rfl rfl rfl rfl ?_
    refine sxl_y (wn_none rfl) rfl rfl (yp rfl) ?_
    refine sxl_nil ?_
    refine qx_seq ?_
    refine sx_true rfl ?_
    refine sx_seq ?_
    refine sx_region ?_
    refine sxl_y (wn_none rfl) rfl rfl (yp rfl) ?_
    refine sxl_y (wn_none rfl) rfl rfl (y_load rfl rfl (sc rfl) (by assumption)) ?_
    refine sxl_y (wn_none rfl) rfl rfl (y_lss_f rfl rfl rfl (by omega)) ?_
    refine sxl_y (wn_none rfl) rfl rfl (yp rfl) ?_
    refine sxl_y (wn_on rfl rfl rfl) rfl rfl (yp rfl) ?_
    refine sxl_y (wn_on rfl rfl rfl) rfl rfl (y_load rfl rfl (sc rfl) (by assumption)) ?_
    refine sxl_y (wn_on rfl rfl rfl) rfl rfl (y_gtr_t rfl rfl rfl (by omega)) ?_
    refine sxl_y (wn_none rfl) rfl rfl (yp rfl) ?_
    refine sxl_y (wn_none rfl) rfl rfl (yp rfl) ?_
    refine sxl_nil ?_
    refine qx_seq ?_
    refine sx_ret ?_
    refine qx_then_ret ?_
    refine qx_ret1 rfl rfl ?_
    exact ⟨rfl, hfr04⟩
  obtain ⟨cn, rfl⟩ : ∃ n : Nat, cut = (n : Int) := ⟨cut.toNat, by omega⟩
  obtain ⟨hgood, hgw, hgd⟩ := fmt_good
  refine sxl_y (wn_none rfl) rfl rfl (yp rfl) ?_
  refine sxl_y (wn_none rfl) rfl rfl (yp rfl) ?_
  refine sxl_y (wn_none rfl) rfl rfl (yp rfl) ?_
  refine sxl_y (wn_none rfl) rfl rfl (yp rfl) ?_
  refine sxl_y (wn_none rfl) rfl rfl (yp rfl) ?_
  refine sxl_nil ?_
  refine qx_seq ?_
  refine sx_seq ?_
  refine sx_seq ?_
  refine sx_region ?_
  refine sxl_y (wn_none rfl) rfl rfl (yp rfl) ?_
  refine sxl_y (wn_none rfl) rfl rfl (y_neq_f rfl rfl rfl (by omega)) ?_
  refine sxl_y (wn_none rfl) rfl rfl (yp rfl) ?_
  refine sxl_y (wn_on rfl rfl rfl) rfl rfl (yp rfl) ?_
  refine sxl_y (wn_on rfl rfl rfl) rfl rfl (y_load rfl rfl (sc rfl) (by assumption)) ?_
  refine sxl_y (wn_on rfl rfl rfl) rfl rfl (y_lss_f rfl rfl rfl (by omega)) ?_
  refine sxl_y (wn_none rfl) rfl rfl (yp rfl) ?_
  refine sxl_y (wn_none rfl) rfl rfl (yp rfl) ?_
  refine sxl_y (wn_on rfl rfl rfl) rfl rfl (yp rfl) ?_
  refine sxl_y (wn_on rfl rfl rfl) rfl rfl (y_load rfl rfl (sc rfl) (by assumption)) ?_
  refine sxl_y (wn_on rfl rfl rfl) rfl rfl (y_gtr_f rfl rfl rfl (by omega)) ?_
  refine sxl_y (wn_none rfl) rfl rfl (yp rfl) ?_
  refine sxl_y (wn_none rfl) rfl rfl (yp rfl) ?_
  refine sxl_y (wn_on rfl rfl rfl) rfl rfl (yp rfl) ?_
  refine sxl_y (wn_on rfl rfl rfl) rfl rfl (yp rfl) ?_
  refine sxl_y (wn_on rfl rfl rfl) rfl rfl (y_convInt rfl rfl Tryd.underlying3 Tryd.underlying35 hU) ?_
  refine sxl_y (wn_on rfl rfl rfl) rfl rfl (y_remU (b := 200) rfl rfl rfl (by decide)) ?_
  rw [← hK]
  refine sxl_y (wn_on rfl rfl rfl) rfl rfl (y_convInt rfl rfl Tryd.underlying35 Tryd.underlying3 hKw) ?_
  refine sxl_y (wn_on rfl rfl rfl) rfl rfl (y_loadB rfl rfl hbP4 Tryd.underlying25 rfl plan_size (Nat.le_refl _)) ?_
  have hfz := fuse_ok K kA kc keep torn cn w4 Q.L (newDS 80).fmt hnew.pg.dk hgood.dead (hk.fr0 hfr04) hN hkm (by omega) (by omega)
  rw [hgdq] at hfz
  refine sxl_call (some 62) (wn_on rfl rfl rfl) rfl rfl (yc_call rfl rfl Tryd.call9) hfz ?_
  rintro _ w5 ⟨L5, rfl, h5⟩
  refine ⟨_, rfl, ?_⟩
  have hp5 := hnew.pg.fuse h5
  have hg5 := hgood.fuse K keep torn (cut := cn) (by omega)
  generalize hs5 : (newDS 80).fmt.fuse K keep torn cn = s5 at hp5 hg5 h5
  have hw5 : s5.waits = [] := by rw [← hs5]; exact hgw
  have hd5 : s5.done = 9 := by rw [← hs5]; exact hgd
  have hk5 : s5.keep = keep := by rw [← hs5]; rfl
  clear hfz hs5 hgw hgd hgood
  refine sxl_y (wn_on rfl rfl rfl) rfl rfl (y_neq_f rfl rfl rfl (by omega)) ?_
  refine sxl_y (wn_none rfl) rfl rfl (yp rfl) ?_
  refine sxl_nil ?_
  refine qx_seq ?_
  refine sx_false rfl ?_
  refine sx_skip ?_
  refine qx_seq ?_
  refine sx_seq ?_
  refine sx_region ?_
  refine sxl_does (some 73) (wn_none rfl) rfl rfl (fun ρ hρ => does_mapI rfl) ?_
  rintro _ w6 ⟨m0, rfl, hm1, hm2, hM6, hf6⟩
  refine sxl_y (wn_none rfl) rfl rfl (y_build rfl rfl (state_built m0)) ?_
  refine sxl_does (some 10) (wn_none rfl) rfl rfl (fun ρ hρ => does_alloc 38 rfl _ [.int .i64 0, .map none] state_zero rfl) ?_
  rintro _ w7 ⟨gl, rfl, hl1, hl2, hbl7, hf7⟩
  refine sxl_does none (wn_none rfl) rfl rfl (fun ρ hρ => does_store 38 (.tmp 10) (.tmp 74) rfl gl 0 38 _ [.int .i64 0, .map (some m0)] (hρ _ _ rfl) (hρ _ _ rfl) hbl7 (by rw [state_size]; rfl) (by simp) (by simp [Value.oneCell'])) ?_
  rintro _ w8 ⟨rfl, hbl8, hf8⟩
  have hbl8 : Blk w8 gl 38 [.int .i64 0, .map (some m0)] := hbl8
  refine sxl_nil ?_
  refine qx_seq ?_
  refine sx_seq ?_
  refine sx_region ?_
  refine sxl_y (wn_none rfl) rfl rfl (y_loadB rfl rfl hbl8 Tryd.underlying38 rfl state_size (Nat.le_refl _)) ?_
  refine sxl_does (some 11) (wn_none rfl) rfl rfl (fun ρ hρ => does_alloc 38 rfl _ [.int .i64 0, .map none] state_zero rfl) ?_
  rintro _ w9 ⟨gx, rfl, hx1, hx2, hbx9, hf9⟩
  refine sxl_does none (wn_none rfl) rfl rfl (fun ρ hρ => does_store 38 (.tmp 11) (.tmp 75) rfl gx 0 38 _ [.int .i64 0, .map (some m0)] (hρ _ _ rfl) (hρ _ _ rfl) hbx9 (by rw [state_size]; rfl) (by simp) (by simp [Value.oneCell'])) ?_
  rintro _ w10 ⟨rfl, hbx10, hf10⟩
  have hbx10 : Blk w10 gx 38 [.int .i64 0, .map (some m0)] := hbx10
  have hz5 := h5.fr.size
  have hz6 := hf6.size
  have hz7 := hf7.size
  have hz8 := hf8.size
  have hz9 := hf9.size
  have hcm : Cm w w10 ⟨Q.gp, Q.gm, L5⟩ ⟨20, 1, 0, fun _ => 0, false⟩ s5 gl gx m0 m0 gP 0 0 (fun _ => none) (fun _ => none) [.slice kA keep.length kc, .int .i64 torn, .int .i64 (cn : Int)] := by
    have hlt5 : ∀ b, PL.blocks ⟨Q.gp, Q.gm, L5⟩ b → b < w5.heap.size := fun b hb => hp5.lt hb
    have hkA5 : 0 < s5.keep.length → ∀ b off, L5.kA = some ⟨b, off, none⟩ → b < w5.heap.size := fun hk => hp5.dk.keep_lt hk
    have hown : ∀ b, PL.blocks ⟨Q.gp, Q.gm, L5⟩ b → w2.heap.size ≤ b := fun b hb => by
      have hb' : Q.blocks b := by
        rcases hb with hb | hb | hb
        · exact .inl hb
        · exact .inr (.inl hb)
        · exact .inr (.inr ((fuse_blocks h5 b).1 hb))
      rcases hnew.bl b hb' with hb | hb
      · exact hLn b hb
      · omega
    have q6 := hp5.fr0 (hf6.trans hf7)
    have q8 := q6.frC hf8 (fun hb => by have := hlt5 gl hb; omega) (fun hk b off e => by have := hkA5 hk b off e; omega)
    have q9 := q8.fr0 hf9
    have q10 := q9.frC hf10 (fun hb => by have := hlt5 gx hb; omega) (fun hk b off e => by have := hkA5 hk b off e; omega)
    have hgdn : ¬ gP = Q.L.gd := fun e => by have := hown gP (.inr (.inr (.inl (e.trans h5.gd.symm)))); omega
    refine ⟨q10, fun b hb => by have := hown b hb; omega, ?_, ?_, hbx10, ?_, ?_, ?_, ?_, by omega, fun hk b off e => by have := hkA5 hk b off e; omega⟩
    · refine ((((hfr04.step h5.fr (fun b hb e => ?_)).then0 (hf6.trans hf7)).step hf8 (fun b hb e => by omega)).then0 hf9).step hf10 (fun b hb e => by omega)
      have := hown b (.inr (.inr (.inl (e.trans h5.gd.symm))))
      omega
    · exact (hbl8.fr0 hf9).fr hf10 (by omega)
    · exact ((((hM6.fr hf7 (fun hh => hh)).fr hf8 (by omega)).fr hf9 (fun hh => hh)).fr hf10 (by omega))
    · exact ((((hM6.fr hf7 (fun hh => hh)).fr hf8 (by omega)).fr hf9 (fun hh => hh)).fr hf10 (by omega))
    · exact ((((hbP4.fr h5.fr hgdn).fr0 (hf6.trans hf7)).fr hf8 (by omega)).fr0 hf9).fr hf10 (by omega)
    · rintro b (rfl | rfl | rfl | rfl | rfl)
      · exact ⟨fun hb => by have := hlt5 b hb; omega, by omega⟩
      · exact ⟨fun hb => by have := hlt5 b hb; omega, by omega⟩
      · exact ⟨fun hb => by have := hlt5 b hb; omega, by omega⟩
      · exact ⟨fun hb => by have := hlt5 b hb; omega, by omega⟩
      · exact ⟨fun hb => by have := hown b hb; omega, by omega⟩
  have hgd5 : L5.gd = L.gd := h5.gd.trans hgdq
  generalize L.gd = gd at hgd5
  generalize Q.gp = gp at hcm
  have hcn : cn ≤ 128 := by omega
  clear hp5 hnew h5 hbP hbP4 c2 hbl7 hbl8 hbx9 hbx10 hM6 hdk hLn hf1 hf2 hf3 hf6 hf7 hf8 hf9 hf10 hf04 hfr04
  refine sxl_nil ?_
  refine qx_seq ?_
  refine sx_seq ?_
  refine sx_seq ?_
  refine sx_region ?_
  refine sxl_y (wn_none rfl) rfl rfl (yp rfl) ?_
  refine sxl_nil ?_
  refine qx_seq ?_
  refine sx_block ?_
  refine sx_via (ι := PL × PS × DS × Nat × Nat × Nat × Nat × Pgs × Pgs) 0 (fun x w' => Cm w w' x.1 x.2.1 x.2.2.1 gl gx x.2.2.2.1 x.2.2.2.2.1 gP x.2.2.2.2.2.1 x.2.2.2.2.2.2.1 x.2.2.2.2.2.2.2.1 x.2.2.2.2.2.2.2.2 [.slice kA keep.length kc, .int .i64 torn, .int .i64 (cn : Int)] ∧ x.1.L.gd = gd ∧ ((x.2.2.1.dead = false ∧ ∃ sq qo qc rc, DGood x.2.2.1 sq x.2.2.2.2.2.1 qo qc rc x.2.2.2.2.2.2.2.1) ∨ Fin4 x.2.2.1 x.2.2.2.2.2.1 x.2.2.2.2.2.2.1 x.2.2.2.2.2.2.2.1 x.2.2.2.2.2.2.2.2)) (fun _ => [(5, .pointer (some ⟨gP, 0, none⟩)), (7, .pointer (some ⟨gd, 0, none⟩)), (10, .pointer (some ⟨gl, 0, none⟩)), (11, .pointer (some ⟨gx, 0, none⟩))]) ?_ ?_
  · rintro ⟨Q1, p1, s1, ml, mx, r, r', f, f'⟩ w11 ⟨hcm1, hgd1, hor⟩
    have hcm1 : Cm w w11 Q1 p1 s1 gl gx ml mx gP r r' f f' [.slice kA keep.length kc, .int .i64 torn, .int .i64 (cn : Int)] := hcm1
    have hgd1 : Q1.L.gd = gd := hgd1
    have hor : (s1.dead = false ∧ ∃ sq qo qc rc, DGood s1 sq r qo qc rc f) ∨ Fin4 s1 r r' f f' := hor
    have hdead := dead_any w11 Q1.L.gd s1.dead hcm1.pg.dk.c4
    rw [hgd1] at hdead
    refine qx_block_hit ?_
    refine qx_seq ?_
    refine sx_seq ?_
    refine sx_seq ?_
    refine sx_region ?_
    refine sxl_y (wn_none rfl) rfl rfl (yp rfl) ?_
    refine sxl_pure (wn_none rfl) rfl rfl (yc_call rfl rfl Tryd.call10) (hdead) ?_
    refine sxl_y (wn_none rfl) rfl rfl (yp rfl) ?_
    refine sxl_nil ?_
    refine qx_seq ?_
    refine sx_then_via (ι := PL × PS × DS × Nat × Nat × Nat × Nat × Pgs × Pgs) (fun x w' => Cm w w' x.1 x.2.1 x.2.2.1 gl gx x.2.2.2.1 x.2.2.2.2.1 gP x.2.2.2.2.2.1 x.2.2.2.2.2.2.1 x.2.2.2.2.2.2.2.1 x.2.2.2.2.2.2.2.2 [.slice kA keep.length kc, .int .i64 torn, .int .i64 (cn : Int)] ∧ x.1.L.gd = gd ∧ Fin4 x.2.2.1 x.2.2.2.2.2.1 x.2.2.2.2.2.2.1 x.2.2.2.2.2.2.2.1 x.2.2.2.2.2.2.2.2) (fun _ => [(7, .pointer (some ⟨gd, 0, none⟩)), (10, .pointer (some ⟨gl, 0, none⟩)), (11, .pointer (some ⟨gx, 0, none⟩))]) ?_ ?_
    rotate_left
    · intro fin
      cases hsd : s1.dead with
      | true =>
        have hfin : Fin4 s1 r r' f f' := by
          rcases hor with ⟨h, _⟩ | h
          · rw [hsd] at h; cases h
          · exact h
        refine sx_false rfl ?_
        refine sx_skip ?_
        exact fin (Q1, p1, s1, ml, mx, r, r', f, f') _ _ ⟨hcm1, hgd1, hfin⟩ ⟨rfl, rfl, rfl, trivial⟩
      | false =>
        obtain ⟨sq, qo, qc, rc, hg⟩ : ∃ sq qo qc rc, DGood s1 sq r qo qc rc f := by
          rcases hor with ⟨_, h⟩ | ⟨h, _⟩
          · exact h
          · rw [hsd] at h; cases h
        have hkr : Rd w11 kA keep.length (boolsV keep) := hk.fr0 hcm1.fr
        have hcr := crashC_ok kA kc keep torn cn w11 Q1.L s1 hcm1.pg.dk hsd hkr (fun h0 b off e hb => by
          have h1 := hk.lt h0 b off e
          have h2 := hcm1.own b (.inr (.inr hb))
          omega) hcn
        rw [hgd1] at hcr
        refine sx_true rfl ?_
        refine sx_seq ?_
        refine sx_region ?_
        refine sxl_y (wn_none rfl) rfl rfl (yp rfl) ?_
        refine sxl_y (wn_none rfl) rfl rfl (y_loadB rfl rfl hcm1.pln Tryd.underlying25 rfl plan_size (Nat.le_refl _)) ?_
        refine sxl_call (some 238) (wn_none rfl) rfl rfl (yc_call rfl rfl Tryd.call17) hcr ?_
        rintro _ w12 ⟨L2, rfl, hto⟩
        refine ⟨_, rfl, ?_⟩
        have hcm2 := hcm1.to (PgTo.disk hcm1.pg hto rfl) rfl
        refine sxl_nil ?_
        refine qx_seq ?_
        refine sx_region ?_
        refine sxl_y (wn_none rfl) rfl rfl (y_loadB rfl rfl hcm2.la Tryd.underlying38 rfl state_size (Nat.le_refl _)) ?_
        refine sxl_does none (wn_none rfl) rfl rfl (fun ρ hρ => does_store 38 (.tmp 11) (.tmp 239) rfl gx 0 38 _ [.int .i64 (r : Int), .map (some ml)] (hρ _ _ rfl) (hρ _ _ rfl) hcm2.nx (by rw [state_size]; rfl) (by simp) (by simp [Value.oneCell'])) ?_
        rintro _ w13 ⟨rfl, hb13, hf13⟩
        have hcm3 := hcm2.setx (r2 := r) (m2 := ml) (f2 := f) hf13 hb13 hcm2.mla (hcm2.off ml (.inr (.inr (.inl rfl))))
        have hfin : Fin4 (s1.crash keep torn cn) r r f f := ⟨rfl, (crashFrom_length ..).trans hg.len, .inl (hg.crash0 keep torn cn)⟩
        refine sxl_nil ?_
        exact fin ({ Q1 with L := L2 }, p1, s1.crash keep torn cn, ml, ml, r, r, f, f) _ _ ⟨hcm3, hto.gd.trans hgd1, hfin⟩ ⟨rfl, rfl, rfl, trivial⟩
    clear hcm1 hgd1 hor hdead
    rintro ⟨Q1, p1, s1, ml, mx, r, r', f, f'⟩ w12 ⟨hcm1, hgd1, hdd, hln, hhold⟩
    have hcm1 : Cm w w12 Q1 p1 s1 gl gx ml mx gP r r' f f' [.slice kA keep.length kc, .int .i64 torn, .int .i64 (cn : Int)] := hcm1
    have hgd1 : Q1.L.gd = gd := hgd1
    have hdd : s1.dead = true := hdd
    have hln : s1.lasts.length = 80 := hln
    have hhold : Holds s1.lasts r f ∨ Holds s1.lasts r' f' := hhold
    have hre := reopen_ok w12 Q1.L s1 hcm1.pg.dk hdd
    rw [hgd1] at hre
    refine sx_seq ?_
    refine sx_region ?_
    refine sxl_y (wn_none rfl) rfl rfl (yp rfl) ?_
    refine sxl_call (some 242) (by first | exact wn_none rfl | exact wn_on rfl rfl rfl) rfl rfl (yc_call rfl rfl Tryd.call18) (hre) ?_
    rintro _ w13 ⟨L3, rfl, hdk3, hL3, hf13⟩
    refine ⟨_, rfl, ?_⟩
    have hln3 : s1.reopen.lasts.length = 80 := hln
    have htell : 0 ≤ (s1.reopen.best 2).1 ∧ ((s1.reopen.best 2).2 = (r : Int) ∧ Kept s1.lasts f ∨ (s1.reopen.best 2).2 = (r' : Int) ∧ Kept s1.lasts f') := by
      rcases hhold with h | h
      · obtain ⟨h1, h2⟩ := h.tell s1.reopen rfl hln3
        exact ⟨h1, .inl ⟨h2, h.kept⟩⟩
      · obtain ⟨h1, h2⟩ := h.tell s1.reopen rfl hln3
        exact ⟨h1, .inr ⟨h2, h.kept⟩⟩
    refine sxl_y (wn_none rfl) rfl rfl (yp rfl) ?_
    refine sxl_y (wn_none rfl) rfl rfl (yp rfl) ?_
    refine sxl_y (wn_none rfl) rfl rfl (yp rfl) ?_
    refine sxl_y (wn_none rfl) rfl rfl (yp rfl) ?_
    refine sxl_y (wn_none rfl) rfl rfl (yp rfl) ?_
    refine sxl_nil ?_
    refine qx_seq ?_
    refine sx_seq ?_
    refine sx_seq ?_
    refine sx_region ?_
    refine sxl_y (wn_none rfl) rfl rfl (yp rfl) ?_
    refine sxl_y (wn_none rfl) rfl rfl (y_neq_f rfl rfl rfl (by omega)) ?_
    refine sxl_nil ?_
    refine qx_seq ?_
    refine sx_false rfl ?_
    refine sx_skip ?_
    refine qx_seq ?_
    refine sx_seq ?_
    refine sx_region ?_
    refine sxl_y (wn_none rfl) rfl rfl (yp rfl) ?_
    refine sxl_call (some 249) (wn_none rfl) rfl rfl (yc_call rfl rfl Tryd.call19) (open_any L3 hdk3 rfl (by rw [hln3]; decide)) ?_
    rintro x w14 ⟨hf14, hop⟩
    obtain ⟨Q2, rfl, hnew2⟩ : ∃ Q2, x = .returned (.tuple #[.pointer (some ⟨Q2.gp, 0, none⟩), .int .i64 (s1.reopen.best 2).2, .int .i64 0]) ∧ PgNew w13 w14 L3 Q2 ⟨s1.reopen.lasts.length / 4, (s1.reopen.best 2).1, (s1.reopen.best 2).2, usedAll (s1.reopen.lasts.length / 4), false⟩ s1.reopen := by
      rcases hop with ⟨h, _⟩ | ⟨_, h⟩
      · have := htell.1; omega
      · exact h
    refine ⟨_, rfl, ?_⟩
    rw [hln3] at hnew2
    have hrk : ∀ g, Kept s1.lasts g → ∀ n t, g n = some t → PS.readA ⟨20, (s1.reopen.best 2).1, (s1.reopen.best 2).2, usedAll 20, false⟩ s1.reopen n = (0, t) := fun g hg n t hn => read_kept (s := s1.reopen) hg rfl hn
    have hfl := hf13.trans hf14
    have hla := hcm1.la.fr0 hfl
    have hfr14 := hcm1.fr.trans hfl
    generalize (s1.reopen.best 2).1 = bq at htell hnew2 hrk
    generalize (s1.reopen.best 2).2 = br at htell hnew2 hrk
    refine sxl_y (wn_none rfl) rfl rfl (yp rfl) ?_
    refine sxl_y (wn_none rfl) rfl rfl (yp rfl) ?_
    refine sxl_y (wn_none rfl) rfl rfl (yp rfl) ?_
    refine sxl_y (wn_none rfl) rfl rfl (yp rfl) ?_
    refine sxl_y (wn_none rfl) rfl rfl (yp rfl) ?_
    refine sxl_y (wn_none rfl) rfl rfl (yp rfl) ?_
    refine sxl_y (wn_none rfl) rfl rfl (yp rfl) ?_
    refine sxl_nil ?_
    refine qx_seq ?_
    refine sx_seq ?_
    refine sx_seq ?_
    refine sx_region ?_
    refine sxl_y (wn_none rfl) rfl rfl (yp rfl) ?_
    refine sxl_y (wn_none rfl) rfl rfl (y_neq_f rfl rfl rfl (by omega)) ?_
    refine sxl_nil ?_
    refine qx_seq ?_
    refine sx_false rfl ?_
    refine sx_skip ?_
    refine qx_seq ?_
    refine sx_seq ?_
    refine sx_region ?_
    refine sxl_y (wn_none rfl) rfl rfl (yp rfl) ?_
    refine sxl_y (wn_none rfl) rfl rfl (yp rfl) ?_
    refine sxl_y (wn_none rfl) rfl rfl (y_loadB rfl rfl hla Tryd.underlying38 rfl state_size (Nat.le_refl _)) ?_
    refine sxl_call (some 258) (by first | exact wn_none rfl | exact wn_on rfl rfl rfl) rfl rfl (yc_call rfl rfl Tryd.call20) (stands_any hnew2.pg (by rw [hln3]; exact Nat.le_refl _) br (r : Int) ml f (hcm1.mla.fr hfl (fun hh => hh))) ?_
    rintro _ w15 ⟨b1, rfl, hf15, hb1⟩
    refine ⟨_, rfl, ?_⟩
    cases b1 with
    | true =>
      refine sxl_y (wn_none rfl) rfl rfl (yp rfl) ?_
      refine sxl_off rfl rfl rfl rfl rfl rfl ?_
      refine sxl_off rfl rfl rfl rfl rfl rfl ?_
      refine sxl_off rfl rfl rfl rfl rfl rfl ?_
      refine sxl_off rfl rfl rfl rfl rfl rfl ?_
      refine sxl_y (wn_none rfl) rfl rfl (yp rfl) ?_
      refine sxl_y (wn_none rfl) rfl rfl (yp rfl) ?_
      refine sxl_nil ?_
      refine qx_seq ?_
      refine sx_ret ?_
      refine qx_ret1 rfl rfl ?_
      exact ⟨rfl, hfr14.trans hf15⟩
    | false =>
      have hnx := (hcm1.nx.fr0 hfl).fr0 hf15
      refine sxl_y (wn_none rfl) rfl rfl (yp rfl) ?_
      refine sxl_y (wn_on rfl rfl rfl) rfl rfl (yp rfl) ?_
      refine sxl_y (wn_on rfl rfl rfl) rfl rfl (yp rfl) ?_
      refine sxl_y (wn_on rfl rfl rfl) rfl rfl (y_loadB rfl rfl hnx Tryd.underlying38 rfl state_size (Nat.le_refl _)) ?_
      refine sxl_call (some 263) (wn_on rfl rfl rfl) rfl rfl (yc_call rfl rfl Tryd.call20) (stands_any (hnew2.pg.fr0 hf15) (by rw [hln3]; exact Nat.le_refl _) br (r' : Int) mx f' ((hcm1.mnx.fr hfl (fun hh => hh)).fr hf15 (fun hh => hh))) ?_
      rintro _ w16 ⟨b2, rfl, hf16, hb2⟩
      refine ⟨_, rfl, ?_⟩
      obtain rfl : b2 = true := by
        rcases htell.2 with ⟨h1, h2⟩ | ⟨h1, h2⟩
        · have := hb1 h1 (hrk f h2); cases this
        · exact hb2 h1 (hrk f' h2)
      refine sxl_y (wn_none rfl) rfl rfl (yp rfl) ?_
      refine sxl_y (wn_none rfl) rfl rfl (yp rfl) ?_
      refine sxl_nil ?_
      refine qx_seq ?_
      refine sx_ret ?_
      refine qx_ret1 rfl rfl ?_
      exact ⟨rfl, (hfr14.trans hf15).trans hf16⟩
  intro main
  refine sx_loop (fun e wr m => ∃ (i : Nat) (Q1 : PL) (p1 : PS) (s1 : DS) (ml mx r r' : Nat) (f f' : Pgs), e = [(12, .int .i64 (i : Int)), (9, .pointer (some ⟨gp, 0, none⟩)), (7, .pointer (some ⟨gd, 0, none⟩)), (5, .pointer (some ⟨gP, 0, none⟩)), (10, .pointer (some ⟨gl, 0, none⟩)), (11, .pointer (some ⟨gx, 0, none⟩)), (0, .slice A l.length c)] ∧ i ≤ 20 ∧ i ≤ l.length ∧ Cm w wr Q1 p1 s1 gl gx ml mx gP r r' f f' [.slice kA keep.length kc, .int .i64 torn, .int .i64 (cn : Int)] ∧ Q1.gp = gp ∧ Q1.L.gd = gd ∧ (Alv p1 s1 r f i ∨ Fin4 s1 r r' f f') ∧ m = 20 - i)
    ⟨0, _, _, s5, m0, m0, 0, 0, _, _, rfl, Nat.zero_le _, Nat.zero_le _, hcm, rfl, hgd5, .inl ⟨1, 0, 1, 0, rfl, hg5, Nat.le_refl _, by rw [hw5]; exact Nat.zero_le _, by rw [hd5]; decide⟩, rfl⟩ ⟨rfl, rfl, rfl, rfl, rfl, rfl, rfl, trivial⟩ ?_
  clear hcm hg5 hw5 hd5 hk5 hgd5 hl1 hl2 hx1 hx2 hm1 hm2 hz1 hz2 hz3 hz4 hz5 hz6 hz7 hz8 hz9 hP1 hP2
  rintro _ wr _ ⟨i, Q1, p1, s1, ml, mx, r, r', f, f', rfl, hi20, hil, hcm, hgp, hgd, hor, rfl⟩
  have hdead := dead_any wr Q1.L.gd s1.dead hcm.pg.dk.c4
  rw [hgd] at hdead
  by_cases hgo : i < l.length ∧ i < 20 ∧ s1.dead = false
  case neg =>
    have hor' : (s1.dead = false ∧ ∃ sq qo qc rc, DGood s1 sq r qo qc rc f) ∨ Fin4 s1 r r' f f' := by
      rcases hor with ⟨sq, qo, qc, rc, _, h, _⟩ | h
      · exact .inl ⟨h.dead, sq, qo, qc, rc, h⟩
      · exact .inr h
    by_cases h1 : i < l.length
    · by_cases h2 : i < 20
      · have h3 : s1.dead = true := by
          cases h : s1.dead with
          | true => rfl
          | false => exact absurd ⟨h1, h2, h⟩ hgo
        rw [h3] at hdead
        refine sx_seq ?_
        refine sx_seq ?_
        refine sx_region ?_
        refine sxl_y (wn_none rfl) rfl rfl (yp rfl) ?_
        refine sxl_y (wn_none rfl) rfl rfl (yp rfl) ?_
        refine sxl_y (wn_none rfl) rfl rfl (y_len rfl rfl (sl rfl)) ?_
        refine sxl_y (wn_none rfl) rfl rfl (y_lss_t rfl rfl rfl (by omega)) ?_
        refine sxl_y (wn_none rfl) rfl rfl (yp rfl) ?_
        refine sxl_y (wn_on rfl rfl rfl) rfl rfl (yp rfl) ?_
        refine sxl_y (wn_on rfl rfl rfl) rfl rfl (y_lss_t rfl rfl rfl (by omega)) ?_
        refine sxl_y (wn_none rfl) rfl rfl (yp rfl) ?_
        refine sxl_y (wn_none rfl) rfl rfl (yp rfl) ?_
        refine sxl_y (wn_on rfl rfl rfl) rfl rfl (yp rfl) ?_
        refine sxl_pure (wn_on rfl rfl rfl) rfl rfl (yc_call rfl rfl Tryd.call10) (hdead) ?_
        refine sxl_y (wn_on rfl rfl rfl) rfl rfl (yp rfl) ?_
        refine sxl_y (wn_none rfl) rfl rfl (yp rfl) ?_
        refine sxl_nil ?_
        refine qx_seq ?_
        refine sx_false rfl ?_
        refine sx_exit ?_
        refine qx_then_exit ?_
        refine qx_then_exit ?_
        exact main (Q1, p1, s1, ml, mx, r, r', f, f') _ _ ⟨hcm, hgd, hor'⟩ ⟨rfl, rfl, rfl, rfl, trivial⟩
      · refine sx_seq ?_
        refine sx_seq ?_
        refine sx_region ?_
        refine sxl_y (wn_none rfl) rfl rfl (yp rfl) ?_
        refine sxl_y (wn_none rfl) rfl rfl (yp rfl) ?_
        refine sxl_y (wn_none rfl) rfl rfl (y_len rfl rfl (sl rfl)) ?_
        refine sxl_y (wn_none rfl) rfl rfl (y_lss_t rfl rfl rfl (by omega)) ?_
        refine sxl_y (wn_none rfl) rfl rfl (yp rfl) ?_
        refine sxl_y (wn_on rfl rfl rfl) rfl rfl (yp rfl) ?_
        refine sxl_y (wn_on rfl rfl rfl) rfl rfl (y_lss_f rfl rfl rfl (by omega)) ?_
        refine sxl_y (wn_none rfl) rfl rfl (yp rfl) ?_
        refine sxl_y (wn_none rfl) rfl rfl (yp rfl) ?_
        refine sxl_off rfl rfl rfl rfl rfl rfl ?_
        refine sxl_off rfl rfl rfl rfl rfl rfl ?_
        refine sxl_off rfl rfl rfl rfl rfl rfl ?_
        refine sxl_y (wn_none rfl) rfl rfl (yp rfl) ?_
        refine sxl_nil ?_
        refine qx_seq ?_
        refine sx_false rfl ?_
        refine sx_exit ?_
        refine qx_then_exit ?_
        refine qx_then_exit ?_
        exact main (Q1, p1, s1, ml, mx, r, r', f, f') _ _ ⟨hcm, hgd, hor'⟩ ⟨rfl, rfl, rfl, rfl, trivial⟩
    · refine sx_seq ?_
      refine sx_seq ?_
      refine sx_region ?_
      refine sxl_y (wn_none rfl) rfl rfl (yp rfl) ?_
      refine sxl_y (wn_none rfl) rfl rfl (yp rfl) ?_
      refine sxl_y (wn_none rfl) rfl rfl (y_len rfl rfl (sl rfl)) ?_
      refine sxl_y (wn_none rfl) rfl rfl (y_lss_f rfl rfl rfl (by omega)) ?_
      refine sxl_y (wn_none rfl) rfl rfl (yp rfl) ?_
      refine sxl_off rfl rfl rfl rfl rfl rfl ?_
      refine sxl_off rfl rfl rfl rfl rfl rfl ?_
      refine sxl_y (wn_none rfl) rfl rfl (yp rfl) ?_
      refine sxl_y (wn_none rfl) rfl rfl (yp rfl) ?_
      refine sxl_off rfl rfl rfl rfl rfl rfl ?_
      refine sxl_off rfl rfl rfl rfl rfl rfl ?_
      refine sxl_off rfl rfl rfl rfl rfl rfl ?_
      refine sxl_y (wn_none rfl) rfl rfl (yp rfl) ?_
      refine sxl_nil ?_
      refine qx_seq ?_
      refine sx_false rfl ?_
      refine sx_exit ?_
      refine qx_then_exit ?_
      refine qx_then_exit ?_
      exact main (Q1, p1, s1, ml, mx, r, r', f, f') _ _ ⟨hcm, hgd, hor'⟩ ⟨rfl, rfl, rfl, rfl, trivial⟩
  obtain ⟨hil', hi20', hal⟩ := hgo
  obtain ⟨sq, qo, qc, rc, rfl, hg, hsq, hwt, hdn⟩ : Alv p1 s1 r f i := hor.resolve_right (fun h => by have := h.1; rw [hal] at this; cases this)
  rw [hal] at hdead
  obtain ⟨t, ht⟩ : ∃ t, l[i]? = some t := ⟨_, List.getElem?_eq_getElem hil'⟩
  have htm := List.mem_of_getElem? ht
  obtain ⟨ab, ao, rfl, ct0, cw0, cd0, cc0⟩ := tx_cells hl ht
  have cd : Cell wr.heap ab (ao + i * 4 + 2) (.slice t.A t.dr.length t.c) := cd0.fr hcm.fr (fun hh => hh)
  refine sx_seq ?_
  refine sx_seq ?_
  refine sx_region ?_
  refine sxl_y (wn_none rfl) rfl rfl (yp rfl) ?_
  refine sxl_y (wn_none rfl) rfl rfl (yp rfl) ?_
  refine sxl_y (wn_none rfl) rfl rfl (y_len rfl rfl (sl rfl)) ?_
  refine sxl_y (wn_none rfl) rfl rfl (y_lss_t rfl rfl rfl (by omega)) ?_
  refine sxl_y (wn_none rfl) rfl rfl (yp rfl) ?_
  refine sxl_y (wn_on rfl rfl rfl) rfl rfl (yp rfl) ?_
  refine sxl_y (wn_on rfl rfl rfl) rfl rfl (y_lss_t rfl rfl rfl (by omega)) ?_
  refine sxl_y (wn_none rfl) rfl rfl (yp rfl) ?_
  refine sxl_y (wn_none rfl) rfl rfl (yp rfl) ?_
  refine sxl_y (wn_on rfl rfl rfl) rfl rfl (yp rfl) ?_
  refine sxl_pure (wn_on rfl rfl rfl) rfl rfl (yc_call rfl rfl Tryd.call10) (hdead) ?_
  refine sxl_y (wn_on rfl rfl rfl) rfl rfl (yp rfl) ?_
  refine sxl_y (wn_none rfl) rfl rfl (yp rfl) ?_
  refine sxl_nil ?_
  refine qx_seq ?_
  refine sx_true rfl ?_
  refine sx_skip ?_
  refine qx_seq ?_
  refine sx_seq ?_
  refine sx_block ?_
  refine sx_seq ?_
  refine sx_region ?_
  refine sxl_does (some 91) (wn_none rfl) rfl rfl (fun ρ hρ => does_mapI rfl) ?_
  rintro _ w1 ⟨mn, rfl, hn1, hn2, hMn, hf1⟩
  have hcm1 := hcm.fr0 hf1
  refine sxl_y (wn_none rfl) rfl rfl (y_build rfl rfl (state_built mn)) ?_
  refine sxl_does none (wn_none rfl) rfl rfl (fun ρ hρ => does_store 38 (.tmp 11) (.tmp 92) rfl gx 0 38 _ [.int .i64 0, .map (some mn)] (hρ _ _ rfl) (hρ _ _ rfl) hcm1.nx (by rw [state_size]; rfl) (by simp) (by simp [Value.oneCell'])) ?_
  rintro _ w2 ⟨rfl, hb2, hf2⟩
  have hnb : ¬ Q1.blocks mn ∧ w.heap.size ≤ mn := ⟨fun hb => by have := hcm.pg.lt hb; omega, by have := hcm.fr.size; omega⟩
  have hcm2 := hcm1.setx (r2 := 0) (m2 := mn) (f2 := fun _ => none) hf2 hb2 hMn hnb
  have hml : ml < wr.heap.size := hcm.mla.lt
  have hne : ml ≠ mn := by omega
  have cl1 : Cell w2.heap gl 1 (.map (some ml)) := hcm2.la.c 1 rfl
  refine sxl_nil ?_
  refine qx_seq ?_
  refine sx_seq ?_
  refine sx_seq ?_
  refine sx_region ?_
  refine sxl_y (wn_none rfl) rfl rfl (yp rfl) ?_
  refine sxl_y (wn_none rfl) rfl rfl (y_load rfl rfl (sc rfl) (by assumption)) ?_
  refine sxl_does (some 95) (wn_none rfl) rfl rfl (fun ρ hρ => does_rangeI rfl (hρ _ _ rfl) Tryd.underlying36 hcm2.mla) ?_
  rintro _ w3 ⟨r95, n0, rfl, hr1, hr2, hR, hf3⟩
  have hcm3 := hcm2.fr0 hf3
  refine sxl_nil ?_
  refine qx_seq ?_
  refine sx_block ?_
  refine sx_loop (fun e wr' m => ∃ (todo : Int → Bool) (n' : Nat) (g : Pgs), e = [(95, .pointer (some ⟨r95, 0, none⟩)), (12, .int .i64 (i : Int)), (9, .pointer (some ⟨gp, 0, none⟩)), (7, .pointer (some ⟨gd, 0, none⟩)), (5, .pointer (some ⟨gP, 0, none⟩)), (10, .pointer (some ⟨gl, 0, none⟩)), (11, .pointer (some ⟨gx, 0, none⟩)), (0, .slice (some ⟨ab, ao, none⟩) l.length c)] ∧ MiR wr' ml r95 (strs f) todo n' ∧ (∀ k, g k = if todo k then none else f k) ∧ Cm w wr' Q1 ⟨20, (sq : Int), (r : Int), liveSt f, false⟩ s1 gl gx ml mn gP r 0 f g [.slice kA keep.length kc, .int .i64 torn, .int .i64 (cn : Int)] ∧ m = n')
    ⟨_, n0, _, rfl, hR, (fun k => by cases hk : f k <;> simp [strs, hk]), hcm3, rfl⟩ ⟨rfl, rfl, rfl, rfl, rfl, rfl, rfl, rfl, trivial⟩ ?_
  rintro _ w4 _ ⟨todo, n', g, rfl, hR, hgt, hcm4, rfl⟩
  refine sx_seq ?_
  refine sx_region ?_
  refine sxl_does (some 96) (wn_none rfl) rfl rfl (fun ρ hρ => does_nextI rfl (hρ _ _ rfl) hR) ?_
  rintro _ w5 (⟨rfl, rfl, h0, hall⟩ | ⟨k, u, n2, rfl, hk', htk, hn2', hR2, hC, hf5, hsz⟩)
  case inr =>
    obtain ⟨x, hx, rfl⟩ : ∃ x, f k = some x ∧ str x = u := by
      unfold strs at hk'
      cases hfk : f k with
      | none => rw [hfk] at hk'; cases hk'
      | some x => rw [hfk] at hk'; injection hk' with hk'; exact ⟨x, rfl, hk'⟩
    have hcm5 := hcm4.iter hf5 hR (fun b hb => by have := hcm2.pg.lt hb; omega) (fun b hb => by have := hcm2.lt b hb; omega) (by have := hcm2.fr.size; omega)
    have cx1 : Cell w5.heap gx 1 (.map (some mn)) := hcm5.nx.c 1 rfl
    refine sxl_y (wn_none rfl) rfl rfl (yp rfl) ?_
    refine sxl_nil ?_
    refine qx_seq ?_
    refine sx_seq ?_
    refine sx_true rfl ?_
    refine sx_skip ?_
    refine qx_seq ?_
    refine sx_block ?_
    refine sx_seq ?_
    refine sx_region ?_
    refine sxl_y (wn_none rfl) rfl rfl (y_entryI rfl rfl hC) ?_
    refine sxl_y (wn_none rfl) rfl rfl (yp rfl) ?_
    refine sxl_y (wn_none rfl) rfl rfl (yp rfl) ?_
    refine sxl_y (wn_none rfl) rfl rfl (yp rfl) ?_
    refine sxl_y (wn_none rfl) rfl rfl (yp rfl) ?_
    refine sxl_nil ?_
    refine qx_seq ?_
    refine sx_region ?_
    refine sxl_y (wn_none rfl) rfl rfl (yp rfl) ?_
    refine sxl_y (wn_none rfl) rfl rfl (y_load rfl rfl (sc rfl) (by assumption)) ?_
    refine sxl_y (wn_none rfl) rfl rfl (yp rfl) ?_
    refine sxl_y (wn_none rfl) rfl rfl (yp rfl) ?_
    refine sxl_does none (wn_none rfl) rfl rfl (fun ρ hρ => does_updI (k := k) (v := str x) rfl (hρ _ _ rfl) (hρ _ _ rfl) (hρ _ _ rfl) Tryd.underlying36 Tryd.underlying3 hcm5.mnx) ?_
    rintro _ w6 ⟨rfl, hf6, hm6⟩
    rw [strs_upd] at hm6
    have hcm6 := hcm5.mapx hne hf6 hm6
    refine sxl_nil ?_
    refine qx_block_normal ?_
    exact qx_again [(95, .pointer (some ⟨r95, 0, none⟩)), (12, .int .i64 (i : Int)), (9, .pointer (some ⟨gp, 0, none⟩)), (7, .pointer (some ⟨gd, 0, none⟩)), (5, .pointer (some ⟨gP, 0, none⟩)), (10, .pointer (some ⟨gl, 0, none⟩)), (11, .pointer (some ⟨gx, 0, none⟩)), (0, .slice (some ⟨ab, ao, none⟩) l.length c)] n2 ⟨_, n2, _, rfl, hR2.fr hf6 hne (fun e => by have := hcm2.mnx.lt; omega), (fun y => by
      unfold updP
      by_cases hy : y = k
      · subst hy; simp [hx]
      · simp [hy, hgt y]), hcm6, rfl⟩ hn2' ⟨rfl, rfl, rfl, rfl, rfl, rfl, rfl, rfl, trivial⟩
  have hgf : g = f := funext (fun k => by rw [hgt k, hall k]; rfl)
  rw [hgf] at hcm4
  clear hR hgt hall h0 hcm3 hcm2 hcm1 hMn hb2 cl1 hgf
  refine sxl_y (wn_none rfl) rfl rfl (yp rfl) ?_
  refine sxl_nil ?_
  refine qx_seq ?_
  refine sx_seq ?_
  refine sx_false rfl ?_
  refine sx_exit ?_
  refine qx_then_exit ?_
  refine qx_then_exit ?_
  refine qx_block_hit ?_
  refine qx_seq ?_
  refine sx_seq ?_
  refine sx_seq ?_
  refine sx_region ?_
  refine sxl_y (wn_none rfl) rfl rfl (yp rfl) ?_
  refine sxl_nil ?_
  refine qx_seq ?_
  refine sx_block ?_
  refine sx_loop (fun e wr' m => ∃ (k : Nat) (st : Int → Int) (g : Pgs), e = [(15, .int .i64 (k : Int)), (12, .int .i64 (i : Int)), (9, .pointer (some ⟨gp, 0, none⟩)), (7, .pointer (some ⟨gd, 0, none⟩)), (5, .pointer (some ⟨gP, 0, none⟩)), (10, .pointer (some ⟨gl, 0, none⟩)), (11, .pointer (some ⟨gx, 0, none⟩)), (0, .slice (some ⟨ab, ao, none⟩) l.length c)] ∧ k ≤ 6 ∧ k ≤ t.dr.length ∧ Cm w wr' Q1 ⟨20, (sq : Int), (r : Int), st, false⟩ s1 gl gx ml mn gP r 0 f g [.slice kA keep.length kc, .int .i64 torn, .int .i64 (cn : Int)] ∧ Txs f g st ∧ (∀ n, st n ≠ 3) ∧ m = 6 - k)
    ⟨0, _, f, rfl, Nat.zero_le _, Nat.zero_le _, hcm4, Txs.start f, (fun n => by unfold liveSt; split <;> decide), rfl⟩ ⟨rfl, rfl, rfl, rfl, rfl, rfl, rfl, rfl, trivial⟩ ?_
  clear hcm4
  rintro _ w5 _ ⟨k, st, g, rfl, hk6, hkd, hcm5, htx, hn3, rfl⟩
  have cd : Cell w5.heap ab (ao + i * 4 + 2) (.slice t.A t.dr.length t.c) := cd0.fr hcm5.fr (fun hh => hh)
  have hgone : PS.gone ⟨20, (sq : Int), (r : Int), st, false⟩ s1 = false := by unfold PS.gone; rw [hal]; rfl
  by_cases hgo : k < t.dr.length ∧ k < 6
  · obtain ⟨hlt, h6⟩ := hgo
    obtain ⟨c0, hc0⟩ : ∃ c0, t.dr[k]? = some c0 := ⟨_, List.getElem?_eq_getElem hlt⟩
    obtain ⟨b2, o2, eA, ce2⟩ := rd_byteT ((hdr t htm).fr0 hcm5.fr) hc0
    rw [eA] at cd
    obtain ⟨D, hD⟩ : ∃ D, D = c0.toNat % 18 := ⟨_, rfl⟩
    have hDw : IntKind.i64.wrap (D : Int) = (D : Int) := by rw [IntKind.wrap_i64]; omega
    have e18 : ((18 : Nat) : Int) = 18 := rfl
    have cx1 : Cell w5.heap gx 1 (.map (some mn)) := hcm5.nx.c 1 rfl
    have cl1 : Cell w5.heap gl 1 (.map (some ml)) := hcm5.la.c 1 rfl
    cases hgn : g (2 + (D : Int)) with
    | none =>
      refine sx_seq ?_
      refine sx_seq ?_
      refine sx_region ?_
      refine sxl_y (wn_none rfl) rfl rfl (yp rfl) ?_
      refine sxl_y (wn_none rfl) rfl rfl (yp rfl) ?_
      refine sxl_y (wn_none rfl) rfl rfl (yp rfl) ?_
      refine sxl_y (wn_none rfl) rfl rfl (y_indexN rfl rfl rfl (sl rfl) (by omega)) ?_
      refine sxl_y (wn_none rfl) rfl rfl (yp rfl) ?_
      refine sxl_y (wn_none rfl) rfl rfl (y_load rfl rfl (sc rfl) (by assumption)) ?_
      refine sxl_y (wn_none rfl) rfl rfl (y_len rfl rfl (sl rfl)) ?_
      refine sxl_y (wn_none rfl) rfl rfl (y_lss_t rfl rfl rfl (by omega)) ?_
      refine sxl_y (wn_none rfl) rfl rfl (yp rfl) ?_
      refine sxl_y (wn_on rfl rfl rfl) rfl rfl (yp rfl) ?_
      refine sxl_y (wn_on rfl rfl rfl) rfl rfl (y_lss_t rfl rfl rfl (by omega)) ?_
      refine sxl_y (wn_none rfl) rfl rfl (yp rfl) ?_
      refine sxl_nil ?_
      refine qx_seq ?_
      refine sx_true rfl ?_
      refine sx_skip ?_
      refine qx_seq ?_
      refine sx_seq ?_
      refine sx_block ?_
      refine sx_seq ?_
      refine sx_region ?_
      refine sxl_y (wn_none rfl) rfl rfl (yp rfl) ?_
      refine sxl_y (wn_none rfl) rfl rfl (yp rfl) ?_
      refine sxl_y (wn_none rfl) rfl rfl (y_indexN rfl rfl rfl (sl rfl) (by omega)) ?_
      refine sxl_y (wn_none rfl) rfl rfl (yp rfl) ?_
      refine sxl_y (wn_none rfl) rfl rfl (y_load rfl rfl (sc rfl) (by assumption)) ?_
      refine sxl_y (wn_none rfl) rfl rfl (yp rfl) ?_
      refine sxl_y (wn_none rfl) rfl rfl (y_indexN rfl rfl rfl (sl rfl) (by omega)) ?_
      refine sxl_y (wn_none rfl) rfl rfl (y_load rfl rfl (sc rfl) (by assumption)) ?_
      refine sxl_y (wn_none rfl) rfl rfl (y_remU (b := 18) rfl rfl rfl (by decide)) ?_
      rw [← hD]
      refine sxl_y (wn_none rfl) rfl rfl (y_convInt rfl rfl Tryd.underlying5 Tryd.underlying3 hDw) ?_
      refine sxl_y (wn_none rfl) rfl rfl (y_add rfl rfl rfl (by omega)) ?_
      refine sxl_y (wn_none rfl) rfl rfl (yp rfl) ?_
      refine sxl_nil ?_
      refine qx_seq ?_
      refine sx_seq ?_
      refine sx_region ?_
      refine sxl_y (wn_none rfl) rfl rfl (yp rfl) ?_
      refine sxl_y (wn_none rfl) rfl rfl (y_load rfl rfl (sc rfl) (by assumption)) ?_
      refine sxl_y (wn_none rfl) rfl rfl (yp rfl) ?_
      refine sxl_y (wn_none rfl) rfl rfl (y_lookS_no rfl rfl rfl hcm5.mnx hgn) ?_
      refine sxl_y (wn_none rfl) rfl rfl (yp rfl) ?_
      refine sxl_y (wn_none rfl) rfl rfl (yp rfl) ?_
      refine sxl_y (wn_none rfl) rfl rfl (yp rfl) ?_
      refine sxl_y (wn_none rfl) rfl rfl (yp rfl) ?_
      refine sxl_y (wn_none rfl) rfl rfl (yp rfl) ?_
      refine sxl_nil ?_
      refine qx_seq ?_
      refine sx_seq ?_
      refine sx_region ?_
      refine sxl_y (wn_none rfl) rfl rfl (yp rfl) ?_
      refine sxl_y (wn_none rfl) rfl rfl (yp rfl) ?_
      refine sxl_off rfl rfl rfl rfl rfl rfl ?_
      refine sxl_off rfl rfl rfl rfl rfl rfl ?_
      refine sxl_off rfl rfl rfl rfl rfl rfl ?_
      refine sxl_off rfl rfl rfl rfl rfl rfl ?_
      refine sxl_off rfl rfl rfl rfl rfl rfl ?_
      refine sxl_off rfl rfl rfl rfl rfl rfl ?_
      refine sxl_off rfl rfl rfl rfl rfl rfl ?_
      refine sxl_off rfl rfl rfl rfl rfl rfl ?_
      refine sxl_off rfl rfl rfl rfl rfl rfl ?_
      refine sxl_y (wn_none rfl) rfl rfl (yp rfl) ?_
      refine sxl_y (wn_none rfl) rfl rfl (yp rfl) ?_
      refine sxl_off rfl rfl rfl rfl rfl rfl ?_
      refine sxl_off rfl rfl rfl rfl rfl rfl ?_
      refine sxl_off rfl rfl rfl rfl rfl rfl ?_
      refine sxl_off rfl rfl rfl rfl rfl rfl ?_
      refine sxl_y (wn_none rfl) rfl rfl (yp rfl) ?_
      refine sxl_nil ?_
      refine qx_seq ?_
      refine sx_false rfl ?_
      refine sx_skip ?_
      refine qx_block_normal ?_
      refine qx_seq ?_
      refine sx_region ?_
      refine sxl_y (wn_none rfl) rfl rfl (yp rfl) ?_
      refine sxl_y (wn_none rfl) rfl rfl (y_add rfl rfl rfl (by omega)) ?_
      refine sxl_y (wn_none rfl) rfl rfl (yp rfl) ?_
      refine sxl_nil ?_
      exact qx_again [(15, .int .i64 ((k + 1 : Nat) : Int)), (12, .int .i64 (i : Int)), (9, .pointer (some ⟨gp, 0, none⟩)), (7, .pointer (some ⟨gd, 0, none⟩)), (5, .pointer (some ⟨gP, 0, none⟩)), (10, .pointer (some ⟨gl, 0, none⟩)), (11, .pointer (some ⟨gx, 0, none⟩)), (0, .slice (some ⟨ab, ao, none⟩) l.length c)] (6 - (k + 1)) ⟨k + 1, st, g, rfl, h6, hlt, hcm5, htx, hn3, rfl⟩ (by omega) ⟨rfl, rfl, rfl, rfl, rfl, rfl, rfl, rfl, trivial⟩
    | some x =>
      have hfn : f (2 + (D : Int)) = some x ∧ st (2 + (D : Int)) = 1 := by
        cases hf : f (2 + (D : Int)) with
        | none =>
          rcases htx.new _ hf with ⟨_, h⟩ | ⟨h, _⟩
          · rw [hgn] at h; cases h
          · exact absurd h (hn3 _)
        | some y =>
          rcases htx.old _ (by rw [hf]; intro e; cases e) with ⟨h1, h⟩ | ⟨_, h⟩
          · rw [hgn, hf] at h; exact ⟨h.symm, h1⟩
          · rw [hgn] at h; cases h
      obtain ⟨hfn, hst1⟩ := hfn
      refine sx_seq ?_
      refine sx_seq ?_
      refine sx_region ?_
      refine sxl_y (wn_none rfl) rfl rfl (yp rfl) ?_
      refine sxl_y (wn_none rfl) rfl rfl (yp rfl) ?_
      refine sxl_y (wn_none rfl) rfl rfl (yp rfl) ?_
      refine sxl_y (wn_none rfl) rfl rfl (y_indexN rfl rfl rfl (sl rfl) (by omega)) ?_
      refine sxl_y (wn_none rfl) rfl rfl (yp rfl) ?_
      refine sxl_y (wn_none rfl) rfl rfl (y_load rfl rfl (sc rfl) (by assumption)) ?_
      refine sxl_y (wn_none rfl) rfl rfl (y_len rfl rfl (sl rfl)) ?_
      refine sxl_y (wn_none rfl) rfl rfl (y_lss_t rfl rfl rfl (by omega)) ?_
      refine sxl_y (wn_none rfl) rfl rfl (yp rfl) ?_
      refine sxl_y (wn_on rfl rfl rfl) rfl rfl (yp rfl) ?_
      refine sxl_y (wn_on rfl rfl rfl) rfl rfl (y_lss_t rfl rfl rfl (by omega)) ?_
      refine sxl_y (wn_none rfl) rfl rfl (yp rfl) ?_
      refine sxl_nil ?_
      refine qx_seq ?_
      refine sx_true rfl ?_
      refine sx_skip ?_
      refine qx_seq ?_
      refine sx_seq ?_
      refine sx_block ?_
      refine sx_seq ?_
      refine sx_region ?_
      refine sxl_y (wn_none rfl) rfl rfl (yp rfl) ?_
      refine sxl_y (wn_none rfl) rfl rfl (yp rfl) ?_
      refine sxl_y (wn_none rfl) rfl rfl (y_indexN rfl rfl rfl (sl rfl) (by omega)) ?_
      refine sxl_y (wn_none rfl) rfl rfl (yp rfl) ?_
      refine sxl_y (wn_none rfl) rfl rfl (y_load rfl rfl (sc rfl) (by assumption)) ?_
      refine sxl_y (wn_none rfl) rfl rfl (yp rfl) ?_
      refine sxl_y (wn_none rfl) rfl rfl (y_indexN rfl rfl rfl (sl rfl) (by omega)) ?_
      refine sxl_y (wn_none rfl) rfl rfl (y_load rfl rfl (sc rfl) (by assumption)) ?_
      refine sxl_y (wn_none rfl) rfl rfl (y_remU (b := 18) rfl rfl rfl (by decide)) ?_
      rw [← hD]
      refine sxl_y (wn_none rfl) rfl rfl (y_convInt rfl rfl Tryd.underlying5 Tryd.underlying3 hDw) ?_
      refine sxl_y (wn_none rfl) rfl rfl (y_add rfl rfl rfl (by omega)) ?_
      refine sxl_y (wn_none rfl) rfl rfl (yp rfl) ?_
      refine sxl_nil ?_
      refine qx_seq ?_
      refine sx_seq ?_
      refine sx_region ?_
      refine sxl_y (wn_none rfl) rfl rfl (yp rfl) ?_
      refine sxl_y (wn_none rfl) rfl rfl (y_load rfl rfl (sc rfl) (by assumption)) ?_
      refine sxl_y (wn_none rfl) rfl rfl (yp rfl) ?_
      refine sxl_y (wn_none rfl) rfl rfl (y_lookS_ok rfl rfl rfl hcm5.mnx hgn) ?_
      refine sxl_y (wn_none rfl) rfl rfl (yp rfl) ?_
      refine sxl_y (wn_none rfl) rfl rfl (yp rfl) ?_
      refine sxl_y (wn_none rfl) rfl rfl (yp rfl) ?_
      refine sxl_y (wn_none rfl) rfl rfl (yp rfl) ?_
      refine sxl_y (wn_none rfl) rfl rfl (yp rfl) ?_
      refine sxl_nil ?_
      refine qx_seq ?_
      refine sx_seq ?_
      refine sx_region ?_
      refine sxl_y (wn_none rfl) rfl rfl (yp rfl) ?_
      refine sxl_y (wn_none rfl) rfl rfl (yp rfl) ?_
      refine sxl_y (wn_on rfl rfl rfl) rfl rfl (yp rfl) ?_
      refine sxl_y (wn_on rfl rfl rfl) rfl rfl (y_load rfl rfl (sc rfl) (by assumption)) ?_
      refine sxl_y (wn_on rfl rfl rfl) rfl rfl (yp rfl) ?_
      refine sxl_y (wn_on rfl rfl rfl) rfl rfl (y_lookS rfl rfl rfl hcm5.mla hfn) ?_
      refine sxl_y (wn_on rfl rfl rfl) rfl rfl (yp rfl) ?_
      refine sxl_y (wn_on rfl rfl rfl) rfl rfl (y_load rfl rfl (sc rfl) (by assumption)) ?_
      refine sxl_y (wn_on rfl rfl rfl) rfl rfl (yp rfl) ?_
      refine sxl_y (wn_on rfl rfl rfl) rfl rfl (y_lookS rfl rfl rfl hcm5.mnx hgn) ?_
      refine sxl_y (wn_on rfl rfl rfl) rfl rfl (y_seql_t (b := x) rfl rfl rfl rfl) ?_
      refine sxl_y (wn_none rfl) rfl rfl (yp rfl) ?_
      refine sxl_y (wn_none rfl) rfl rfl (yp rfl) ?_
      refine sxl_y (wn_on rfl rfl rfl) rfl rfl (yp rfl) ?_
      refine sxl_y (wn_on rfl rfl rfl) rfl rfl (yp rfl) ?_
      have hdrop := drop_1 hcm5.pg (n := 2 + (D : Int)) hgone (by omega) (by show 2 + (D : Int) < ((20 : Nat) : Int); omega) hst1
      rw [hgp] at hdrop
      refine sxl_call (some 152) (wn_on rfl rfl rfl) rfl rfl (yc_call rfl rfl Tryd.call11) hdrop ?_
      rintro _ w6 ⟨rfl, hto6⟩
      refine ⟨_, rfl, ?_⟩
      have hcm6 := hcm5.to hto6 rfl
      have cx1 : Cell w6.heap gx 1 (.map (some mn)) := hcm6.nx.c 1 rfl
      refine sxl_y (wn_on rfl rfl rfl) rfl rfl (y_eql_t rfl rfl rfl (by omega)) ?_
      refine sxl_y (wn_none rfl) rfl rfl (yp rfl) ?_
      refine sxl_nil ?_
      refine qx_seq ?_
      refine sx_true rfl ?_
      refine sx_region ?_
      refine sxl_y (wn_none rfl) rfl rfl (yp rfl) ?_
      refine sxl_y (wn_none rfl) rfl rfl (y_load rfl rfl (sc rfl) (by assumption)) ?_
      refine sxl_y (wn_none rfl) rfl rfl (yp rfl) ?_
      refine sxl_does none (wn_none rfl) rfl rfl (fun ρ hρ => does_delI (t := 36) (k := 2 + (D : Int)) rfl rfl (hρ _ _ rfl) (hρ _ _ rfl) Tryd.underlying36 Tryd.underlying3 hcm6.mnx) ?_
      rintro _ w7 ⟨hf7, hm7⟩
      rw [strs_del] at hm7
      have hcm7 := hcm6.mapx hne hf7 hm7
      refine sxl_nil ?_
      refine qx_block_normal ?_
      refine qx_seq ?_
      refine sx_region ?_
      refine sxl_y (wn_none rfl) rfl rfl (yp rfl) ?_
      refine sxl_y (wn_none rfl) rfl rfl (y_add rfl rfl rfl (by omega)) ?_
      refine sxl_y (wn_none rfl) rfl rfl (yp rfl) ?_
      refine sxl_nil ?_
      exact qx_again [(15, .int .i64 ((k + 1 : Nat) : Int)), (12, .int .i64 (i : Int)), (9, .pointer (some ⟨gp, 0, none⟩)), (7, .pointer (some ⟨gd, 0, none⟩)), (5, .pointer (some ⟨gP, 0, none⟩)), (10, .pointer (some ⟨gl, 0, none⟩)), (11, .pointer (some ⟨gx, 0, none⟩)), (0, .slice (some ⟨ab, ao, none⟩) l.length c)] (6 - (k + 1)) ⟨k + 1, _, _, rfl, h6, hlt, hcm7, htx.drop hst1, (fun n => by
        show updS st (2 + (D : Int)) 4 n ≠ 3
        unfold updS; split
        · decide
        · exact hn3 n), rfl⟩ (by omega) ⟨rfl, rfl, rfl, rfl, rfl, rfl, rfl, rfl, trivial⟩
  refine sx_fork 4 [(12, .int .i64 (i : Int)), (9, .pointer (some ⟨gp, 0, none⟩)), (7, .pointer (some ⟨gd, 0, none⟩)), (5, .pointer (some ⟨gP, 0, none⟩)), (10, .pointer (some ⟨gl, 0, none⟩)), (11, .pointer (some ⟨gx, 0, none⟩)), (0, .slice (some ⟨ab, ao, none⟩) l.length c)] ?_ ?_
  rotate_left
  · intro main2
    by_cases h1 : k < t.dr.length
    · refine sx_seq ?_
      refine sx_seq ?_
      refine sx_region ?_
      refine sxl_y (wn_none rfl) rfl rfl (yp rfl) ?_
      refine sxl_y (wn_none rfl) rfl rfl (yp rfl) ?_
      refine sxl_y (wn_none rfl) rfl rfl (yp rfl) ?_
      refine sxl_y (wn_none rfl) rfl rfl (y_indexN rfl rfl rfl (sl rfl) (by omega)) ?_
      refine sxl_y (wn_none rfl) rfl rfl (yp rfl) ?_
      refine sxl_y (wn_none rfl) rfl rfl (y_load rfl rfl (sc rfl) (by assumption)) ?_
      refine sxl_y (wn_none rfl) rfl rfl (y_len rfl rfl (sl rfl)) ?_
      refine sxl_y (wn_none rfl) rfl rfl (y_lss_t rfl rfl rfl (by omega)) ?_
      refine sxl_y (wn_none rfl) rfl rfl (yp rfl) ?_
      refine sxl_y (wn_on rfl rfl rfl) rfl rfl (yp rfl) ?_
      refine sxl_y (wn_on rfl rfl rfl) rfl rfl (y_lss_f rfl rfl rfl (by omega)) ?_
      refine sxl_y (wn_none rfl) rfl rfl (yp rfl) ?_
      refine sxl_nil ?_
      refine qx_seq ?_
      refine sx_false rfl ?_
      refine sx_exit ?_
      refine qx_then_exit ?_
      refine qx_then_exit ?_
      exact main2 _ ⟨rfl, rfl, rfl, rfl, rfl, rfl, rfl, trivial⟩
    · refine sx_seq ?_
      refine sx_seq ?_
      refine sx_region ?_
      refine sxl_y (wn_none rfl) rfl rfl (yp rfl) ?_
      refine sxl_y (wn_none rfl) rfl rfl (yp rfl) ?_
      refine sxl_y (wn_none rfl) rfl rfl (yp rfl) ?_
      refine sxl_y (wn_none rfl) rfl rfl (y_indexN rfl rfl rfl (sl rfl) (by omega)) ?_
      refine sxl_y (wn_none rfl) rfl rfl (yp rfl) ?_
      refine sxl_y (wn_none rfl) rfl rfl (y_load rfl rfl (sc rfl) (by assumption)) ?_
      refine sxl_y (wn_none rfl) rfl rfl (y_len rfl rfl (sl rfl)) ?_
      refine sxl_y (wn_none rfl) rfl rfl (y_lss_f rfl rfl rfl (by omega)) ?_
      refine sxl_y (wn_none rfl) rfl rfl (yp rfl) ?_
      refine sxl_off rfl rfl rfl rfl rfl rfl ?_
      refine sxl_off rfl rfl rfl rfl rfl rfl ?_
      refine sxl_y (wn_none rfl) rfl rfl (yp rfl) ?_
      refine sxl_nil ?_
      refine qx_seq ?_
      refine sx_false rfl ?_
      refine sx_exit ?_
      refine qx_then_exit ?_
      refine qx_then_exit ?_
      exact main2 _ ⟨rfl, rfl, rfl, rfl, rfl, rfl, rfl, trivial⟩
  clear hgo hk6 hkd cd
  have hn3' := hn3
  clear hn3
  refine qx_block_hit ?_
  refine qx_seq ?_
  refine sx_seq ?_
  refine sx_region ?_
  refine sxl_y (wn_none rfl) rfl rfl (yp rfl) ?_
  refine sxl_nil ?_
  refine qx_seq ?_
  refine sx_seq ?_
  refine sx_seq ?_
  refine sx_region ?_
  refine sxl_y (wn_none rfl) rfl rfl (yp rfl) ?_
  refine sxl_nil ?_
  refine qx_seq ?_
  refine sx_block ?_
  obtain ⟨T, hT⟩ : ∃ T, T = t.take.toNat % 4 := ⟨_, rfl⟩
  have hTw : IntKind.i64.wrap (T : Int) = (T : Int) := by rw [IntKind.wrap_i64]; omega
  have e4 : ((4 : Nat) : Int) = 4 := rfl
  have hkept5 : Kept s1.shows g := fun n x hn => by
    have hfn : f n = some x := by
      cases hf : f n with
      | none =>
        rcases htx.new _ hf with ⟨_, h⟩ | ⟨h3, _⟩
        · rw [hn] at h; cases h
        · exact absurd h3 (hn3' n)
      | some y =>
        rcases htx.old _ (by rw [hf]; intro e; cases e) with ⟨_, h⟩ | ⟨_, h⟩
        · rw [hn, hf] at h; exact h.symm
        · rw [hn] at h; cases h
    exact hg.shown.2 n x hfn
  refine sx_via (ι := PL × PS × DS × Nat × Pgs) 6 (fun x w' => Cm w w' x.1 x.2.1 x.2.2.1 gl gx ml mn gP r 0 f x.2.2.2.2 [.slice kA keep.length kc, .int .i64 torn, .int .i64 (cn : Int)] ∧ x.1.gp = gp ∧ x.1.L.gd = gd ∧ Tk f sq r qo qc rc (100 * i + 12) x.2.1 x.2.2.1 x.2.2.2.1 x.2.2.2.2) (fun x => [(19, .int .i64 (x.2.2.2.1 : Int)), (12, .int .i64 (i : Int)), (9, .pointer (some ⟨gp, 0, none⟩)), (7, .pointer (some ⟨gd, 0, none⟩)), (5, .pointer (some ⟨gP, 0, none⟩)), (10, .pointer (some ⟨gl, 0, none⟩)), (11, .pointer (some ⟨gx, 0, none⟩)), (0, .slice (some ⟨ab, ao, none⟩) l.length c)]) ?_ ?_
  rotate_left
  · intro main2
    refine sx_loop (fun e wr' m => ∃ (k : Nat) (Q2 : PL) (p2 : PS) (s2 : DS) (root : Nat) (g2 : Pgs), e = [(20, .int .i64 (k : Int)), (19, .int .i64 (root : Int)), (12, .int .i64 (i : Int)), (9, .pointer (some ⟨gp, 0, none⟩)), (7, .pointer (some ⟨gd, 0, none⟩)), (5, .pointer (some ⟨gP, 0, none⟩)), (10, .pointer (some ⟨gl, 0, none⟩)), (11, .pointer (some ⟨gx, 0, none⟩)), (0, .slice (some ⟨ab, ao, none⟩) l.length c)] ∧ k ≤ T ∧ Cm w wr' Q2 p2 s2 gl gx ml mn gP r 0 f g2 [.slice kA keep.length kc, .int .i64 torn, .int .i64 (cn : Int)] ∧ Q2.gp = gp ∧ Q2.L.gd = gd ∧ Tk f sq r qo qc rc (100 * i + 4 * k) p2 s2 root g2 ∧ m = T - k)
      ⟨0, Q1, _, s1, 0, g, rfl, Nat.zero_le _, hcm5, hgp, hgd, .inl ⟨st, rfl, hg, htx, hkept5, .inl rfl, hwt, hdn⟩, rfl⟩ ⟨rfl, rfl, rfl, rfl, rfl, rfl, rfl, rfl, rfl, trivial⟩ ?_
    clear hkept5 htx hgone hcm5
    rintro _ w6 _ ⟨k, Q2, p2, s2, root, g2, rfl, hkT, hcm6, hgp2, hgd2, htk, rfl⟩
    have ct : Cell w6.heap ab (ao + i * 4 + 0) (.int .u8 (t.take.toNat : Int)) := ct0.fr hcm6.fr (fun hh => hh)
    have hmono : Tk f sq r qo qc rc (100 * i + 12) p2 s2 root g2 := htk.mono (by omega)
    by_cases hk : k < T
    case neg =>
      refine sx_seq ?_
      refine sx_seq ?_
      refine sx_region ?_
      refine sxl_y (wn_none rfl) rfl rfl (yp rfl) ?_
      refine sxl_y (wn_none rfl) rfl rfl (yp rfl) ?_
      refine sxl_y (wn_none rfl) rfl rfl (yp rfl) ?_
      refine sxl_y (wn_none rfl) rfl rfl (y_indexN rfl rfl rfl (sl rfl) (by omega)) ?_
      refine sxl_y (wn_none rfl) rfl rfl (yp rfl) ?_
      refine sxl_y (wn_none rfl) rfl rfl (y_load rfl rfl (sc rfl) (by assumption)) ?_
      refine sxl_y (wn_none rfl) rfl rfl (y_remU (b := 4) rfl rfl rfl (by decide)) ?_
      rw [← hT]
      refine sxl_y (wn_none rfl) rfl rfl (y_convInt rfl rfl Tryd.underlying5 Tryd.underlying3 hTw) ?_
      refine sxl_y (wn_none rfl) rfl rfl (y_lss_f rfl rfl rfl (by omega)) ?_
      refine sxl_nil ?_
      refine qx_seq ?_
      refine sx_false rfl ?_
      refine sx_exit ?_
      refine qx_then_exit ?_
      refine qx_then_exit ?_
      exact main2 (Q2, p2, s2, root, g2) _ _ ⟨hcm6, hgp2, hgd2, hmono⟩ ⟨rfl, rfl, rfl, rfl, rfl, rfl, rfl, rfl, trivial⟩
    rcases htk with ⟨st2, rfl, hg2, htx2, hkp2, hrt2, hwt2, hdn2⟩ | ⟨hd2, hln2, hho2⟩
    case inr =>
      have hgn : p2.gone s2 = true := by unfold PS.gone; rw [hd2]; simp
      have hal2 := alloc_dead hcm6.pg hgn
      rw [hgp2] at hal2
      refine sx_seq ?_
      refine sx_seq ?_
      refine sx_region ?_
      refine sxl_y (wn_none rfl) rfl rfl (yp rfl) ?_
      refine sxl_y (wn_none rfl) rfl rfl (yp rfl) ?_
      refine sxl_y (wn_none rfl) rfl rfl (yp rfl) ?_
      refine sxl_y (wn_none rfl) rfl rfl (y_indexN rfl rfl rfl (sl rfl) (by omega)) ?_
      refine sxl_y (wn_none rfl) rfl rfl (yp rfl) ?_
      refine sxl_y (wn_none rfl) rfl rfl (y_load rfl rfl (sc rfl) (by assumption)) ?_
      refine sxl_y (wn_none rfl) rfl rfl (y_remU (b := 4) rfl rfl rfl (by decide)) ?_
      rw [← hT]
      refine sxl_y (wn_none rfl) rfl rfl (y_convInt rfl rfl Tryd.underlying5 Tryd.underlying3 hTw) ?_
      refine sxl_y (wn_none rfl) rfl rfl (y_lss_t rfl rfl rfl (by omega)) ?_
      refine sxl_nil ?_
      refine qx_seq ?_
      refine sx_true rfl ?_
      refine sx_skip ?_
      refine qx_seq ?_
      refine sx_seq ?_
      refine sx_block ?_
      refine sx_seq ?_
      refine sx_region ?_
      refine sxl_y (wn_none rfl) rfl rfl (yp rfl) ?_
      refine sxl_pure (wn_none rfl) rfl rfl (yc_call rfl rfl Tryd.call12) (hal2) ?_
      refine sxl_y (wn_none rfl) rfl rfl (yp rfl) ?_
      refine sxl_y (wn_none rfl) rfl rfl (yp rfl) ?_
      refine sxl_y (wn_none rfl) rfl rfl (yp rfl) ?_
      refine sxl_y (wn_none rfl) rfl rfl (yp rfl) ?_
      refine sxl_y (wn_none rfl) rfl rfl (yp rfl) ?_
      refine sxl_nil ?_
      refine qx_seq ?_
      refine sx_seq ?_
      refine sx_seq ?_
      refine sx_region ?_
      refine sxl_y (wn_none rfl) rfl rfl (yp rfl) ?_
      refine sxl_y (wn_none rfl) rfl rfl (y_neq_t rfl rfl rfl (by omega)) ?_
      refine sxl_nil ?_
      refine qx_seq ?_
      refine sx_true rfl ?_
      refine sx_exit ?_
      refine qx_then_exit ?_
      refine qx_block_miss rfl ?_
      refine qx_then_exit ?_
      refine qx_then_exit ?_
      exact main2 (Q2, p2, s2, root, g2) _ _ ⟨hcm6, hgp2, hgd2, hmono⟩ ⟨rfl, rfl, rfl, rfl, rfl, rfl, rfl, rfl, trivial⟩
    have hgn : PS.gone ⟨20, (sq : Int), (r : Int), st2, false⟩ s2 = false := by unfold PS.gone; rw [hg2.dead]; rfl
    cases hnx : PS.next ⟨20, (sq : Int), (r : Int), st2, false⟩ with
    | none =>
      have hal2 := alloc_none hcm6.pg hgn (show 20 ≤ 100000 by decide) hnx
      rw [hgp2] at hal2
      refine sx_seq ?_
      refine sx_seq ?_
      refine sx_region ?_
      refine sxl_y (wn_none rfl) rfl rfl (yp rfl) ?_
      refine sxl_y (wn_none rfl) rfl rfl (yp rfl) ?_
      refine sxl_y (wn_none rfl) rfl rfl (yp rfl) ?_
      refine sxl_y (wn_none rfl) rfl rfl (y_indexN rfl rfl rfl (sl rfl) (by omega)) ?_
      refine sxl_y (wn_none rfl) rfl rfl (yp rfl) ?_
      refine sxl_y (wn_none rfl) rfl rfl (y_load rfl rfl (sc rfl) (by assumption)) ?_
      refine sxl_y (wn_none rfl) rfl rfl (y_remU (b := 4) rfl rfl rfl (by decide)) ?_
      rw [← hT]
      refine sxl_y (wn_none rfl) rfl rfl (y_convInt rfl rfl Tryd.underlying5 Tryd.underlying3 hTw) ?_
      refine sxl_y (wn_none rfl) rfl rfl (y_lss_t rfl rfl rfl (by omega)) ?_
      refine sxl_nil ?_
      refine qx_seq ?_
      refine sx_true rfl ?_
      refine sx_skip ?_
      refine qx_seq ?_
      refine sx_seq ?_
      refine sx_block ?_
      refine sx_seq ?_
      refine sx_region ?_
      refine sxl_y (wn_none rfl) rfl rfl (yp rfl) ?_
      refine sxl_pure (wn_none rfl) rfl rfl (yc_call rfl rfl Tryd.call12) (hal2) ?_
      refine sxl_y (wn_none rfl) rfl rfl (yp rfl) ?_
      refine sxl_y (wn_none rfl) rfl rfl (yp rfl) ?_
      refine sxl_y (wn_none rfl) rfl rfl (yp rfl) ?_
      refine sxl_y (wn_none rfl) rfl rfl (yp rfl) ?_
      refine sxl_y (wn_none rfl) rfl rfl (yp rfl) ?_
      refine sxl_nil ?_
      refine qx_seq ?_
      refine sx_seq ?_
      refine sx_seq ?_
      refine sx_region ?_
      refine sxl_y (wn_none rfl) rfl rfl (yp rfl) ?_
      refine sxl_y (wn_none rfl) rfl rfl (y_neq_t rfl rfl rfl (by omega)) ?_
      refine sxl_nil ?_
      refine qx_seq ?_
      refine sx_true rfl ?_
      refine sx_exit ?_
      refine qx_then_exit ?_
      refine qx_block_miss rfl ?_
      refine qx_then_exit ?_
      refine qx_then_exit ?_
      exact main2 (Q2, ⟨20, (sq : Int), (r : Int), st2, false⟩, s2, root, g2) _ _ ⟨hcm6, hgp2, hgd2, hmono⟩ ⟨rfl, rfl, rfl, rfl, rfl, rfl, rfl, rfl, trivial⟩
    | some j =>
      obtain ⟨j2, jN, hz, _⟩ := firstFree_some st2 _ _ hnx
      have jN : j < 20 := jN
      obtain ⟨hfj, htx3⟩ := htx2.put hz (payl t.what j k)
      have hal2 := alloc_some hcm6.pg hgn (show 20 ≤ 100000 by decide) hnx
      rw [hgp2] at hal2
      refine sx_seq ?_
      refine sx_seq ?_
      refine sx_region ?_
      refine sxl_y (wn_none rfl) rfl rfl (yp rfl) ?_
      refine sxl_y (wn_none rfl) rfl rfl (yp rfl) ?_
      refine sxl_y (wn_none rfl) rfl rfl (yp rfl) ?_
      refine sxl_y (wn_none rfl) rfl rfl (y_indexN rfl rfl rfl (sl rfl) (by omega)) ?_
      refine sxl_y (wn_none rfl) rfl rfl (yp rfl) ?_
      refine sxl_y (wn_none rfl) rfl rfl (y_load rfl rfl (sc rfl) (by assumption)) ?_
      refine sxl_y (wn_none rfl) rfl rfl (y_remU (b := 4) rfl rfl rfl (by decide)) ?_
      rw [← hT]
      refine sxl_y (wn_none rfl) rfl rfl (y_convInt rfl rfl Tryd.underlying5 Tryd.underlying3 hTw) ?_
      refine sxl_y (wn_none rfl) rfl rfl (y_lss_t rfl rfl rfl (by omega)) ?_
      refine sxl_nil ?_
      refine qx_seq ?_
      refine sx_true rfl ?_
      refine sx_skip ?_
      refine qx_seq ?_
      refine sx_seq ?_
      refine sx_block ?_
      refine sx_seq ?_
      refine sx_region ?_
      refine sxl_y (wn_none rfl) rfl rfl (yp rfl) ?_
      refine sxl_call (some 171) (by first | exact wn_none rfl | exact wn_on rfl rfl rfl) rfl rfl (yc_call rfl rfl Tryd.call12) (hal2) ?_
      rintro _ w7 ⟨rfl, hto7⟩
      refine ⟨_, rfl, ?_⟩
      have hcm7 := hcm6.to hto7 rfl
      have cw : Cell w7.heap ab (ao + i * 4 + 1) (.int .u8 (t.what.toNat : Int)) := cw0.fr hcm7.fr (fun hh => hh)
      refine sxl_y (wn_none rfl) rfl rfl (yp rfl) ?_
      refine sxl_y (wn_none rfl) rfl rfl (yp rfl) ?_
      refine sxl_y (wn_none rfl) rfl rfl (yp rfl) ?_
      refine sxl_y (wn_none rfl) rfl rfl (yp rfl) ?_
      refine sxl_y (wn_none rfl) rfl rfl (yp rfl) ?_
      refine sxl_nil ?_
      refine qx_seq ?_
      refine sx_seq ?_
      refine sx_seq ?_
      refine sx_region ?_
      refine sxl_y (wn_none rfl) rfl rfl (yp rfl) ?_
      refine sxl_y (wn_none rfl) rfl rfl (y_neq_f rfl rfl rfl (by omega)) ?_
      refine sxl_nil ?_
      refine qx_seq ?_
      refine sx_false rfl ?_
      refine sx_skip ?_
      refine qx_seq ?_
      refine sx_seq ?_
      refine sx_region ?_
      refine sxl_y (wn_none rfl) rfl rfl (yp rfl) ?_
      refine sxl_y (wn_none rfl) rfl rfl (yp rfl) ?_
      refine sxl_y (wn_none rfl) rfl rfl (y_indexN rfl rfl rfl (sl rfl) (by omega)) ?_
      refine sxl_y (wn_none rfl) rfl rfl (yp rfl) ?_
      refine sxl_y (wn_none rfl) rfl rfl (y_load rfl rfl (sc rfl) (by assumption)) ?_
      refine sxl_y (wn_none rfl) rfl rfl (yp rfl) ?_
      refine sxl_y (wn_none rfl) rfl rfl (yp rfl) ?_
      refine sxl_call (some 183) (by first | exact wn_none rfl | exact wn_on rfl rfl rfl) rfl rfl (yc_call rfl rfl Tryd.call13) (payload_ok t.what j k w7) ?_
      rintro _ w8 ⟨rfl, hf8⟩
      refine ⟨_, rfl, ?_⟩
      have hcm8 := hcm7.fr0 hf8
      have cl1 : Cell w8.heap gl 1 (.map (some ml)) := hcm8.la.c 1 rfl
      refine sxl_y (wn_none rfl) rfl rfl (yp rfl) ?_
      refine sxl_nil ?_
      refine qx_seq ?_
      refine sx_seq ?_
      refine sx_seq ?_
      refine sx_region ?_
      refine sxl_y (wn_none rfl) rfl rfl (yp rfl) ?_
      refine sxl_y (wn_none rfl) rfl rfl (y_load rfl rfl (sc rfl) (by assumption)) ?_
      refine sxl_y (wn_none rfl) rfl rfl (yp rfl) ?_
      refine sxl_y (wn_none rfl) rfl rfl (y_lookS_no rfl rfl rfl hcm8.mla hfj) ?_
      refine sxl_y (wn_none rfl) rfl rfl (yp rfl) ?_
      refine sxl_y (wn_none rfl) rfl rfl (yp rfl) ?_
      refine sxl_y (wn_none rfl) rfl rfl (yp rfl) ?_
      refine sxl_y (wn_none rfl) rfl rfl (yp rfl) ?_
      refine sxl_y (wn_none rfl) rfl rfl (yp rfl) ?_
      refine sxl_nil ?_
      refine qx_seq ?_
      refine sx_seq ?_
      refine sx_region ?_
      refine sxl_y (wn_none rfl) rfl rfl (yp rfl) ?_
      refine sxl_y (wn_none rfl) rfl rfl (yp rfl) ?_
      refine sxl_y (wn_on rfl rfl rfl) rfl rfl (yp rfl) ?_
      refine sxl_y (wn_on rfl rfl rfl) rfl rfl (yp rfl) ?_
      refine sxl_y (wn_on rfl rfl rfl) rfl rfl (yp rfl) ?_
      refine sxl_does (some 196) (wn_on rfl rfl rfl) rfl rfl (fun ρ hρ => does_strB rfl (hρ _ _ rfl) Tryd.underlying9 Tryd.underlying39 Tryd.underlying5) ?_
      rintro _ w9 ⟨gb, cb, rfl, hb1, hb2', hrb, hf9⟩
      have hcm9 := hcm8.fr0 hf9
      have hln9 := hg2.len
      have hlns9 := hg2.lens
      have hg7 : PS.gone ⟨20, (sq : Int), (r : Int), updS st2 j 2, false⟩ s2 = false := hgn
      have hst7 : (⟨20, (sq : Int), (r : Int), updS st2 j 2, false⟩ : PS).st j = 2 := by show updS st2 j 2 j = 2; unfold updS; rw [if_pos rfl]
      have hwr := pWrite_ok hcm9.pg j (some ⟨gb, 0, none⟩) (payl t.what j k).length cb (payl t.what j k) (wrChk_in hg7 (by omega) (by show (j : Int) < ((20 : Nat) : Int); omega) (by show 5 ≤ 502; decide) hst7) hrb (show 20 * 4 ≤ s2.lasts.length by rw [hln9]; decide) (by omega) (by omega)
      rw [hgp2] at hwr
      refine sxl_call (some 197) (wn_on rfl rfl rfl) rfl rfl (yc_call rfl rfl Tryd.call14) hwr ?_
      rintro _ w10 ⟨Q3, rfl, hto10⟩
      refine ⟨_, rfl, ?_⟩
      have hkp := DS.wrPage_keep s2 j (pageOf j (payl t.what j k))
      have hcm10 := hcm9.to hto10 hkp
      have hgp3 : Q3.gp = gp := hto10.gp.trans hgp2
      have hgd3 : Q3.L.gd = gd := hto10.gd.trans hgd2
      have cx1 : Cell w10.heap gx 1 (.map (some mn)) := hcm10.nx.c 1 rfl
      rcases DS.wrPage_all (b := pageOf j (payl t.what j k)) hg2.dead hg2.syn (n := j) (by rw [hlns9]; omega) with ⟨hok, hW⟩ | ⟨hok, hdd, jj, hjj, hlast⟩
      · rw [hok] at hcm10
        rw [hok, if_pos rfl]
        have hg3 := hg2.wrote j2 hfj hW
        generalize (s2.wrPage j (pageOf j (payl t.what j k))).1 = s3 at hcm10 hW hg3
        have hkp3 : Kept s3.shows (updP g2 j (payl t.what j k)) := fun n x hn => by
          unfold updP at hn
          split at hn
          · rename_i e
            injection hn with hn
            subst hn
            rw [e]
            exact ⟨by omega, by omega, by show 5 ≤ 502; decide, by rw [Int.toNat_natCast]; exact hW.mine⟩
          · rename_i e
            obtain ⟨q1, q2, q3, q4⟩ := hkp2 n x hn
            exact ⟨q1, q2, q3, hW.far (by omega) q4⟩
        refine sxl_y (wn_on rfl rfl rfl) rfl rfl (y_neq_f rfl rfl rfl (by omega)) ?_
        refine sxl_y (wn_on rfl rfl rfl) rfl rfl (yp rfl) ?_
        refine sxl_off rfl rfl rfl rfl rfl rfl ?_
        refine sxl_off rfl rfl rfl rfl rfl rfl ?_
        refine sxl_off rfl rfl rfl rfl rfl rfl ?_
        refine sxl_y (wn_on rfl rfl rfl) rfl rfl (yp rfl) ?_
        refine sxl_y (wn_none rfl) rfl rfl (yp rfl) ?_
        refine sxl_nil ?_
        refine qx_seq ?_
        refine sx_false rfl ?_
        refine sx_skip ?_
        refine qx_seq ?_
        refine sx_seq ?_
        refine sx_region ?_
        refine sxl_y (wn_none rfl) rfl rfl (yp rfl) ?_
        refine sxl_y (wn_none rfl) rfl rfl (y_load rfl rfl (sc rfl) (by assumption)) ?_
        refine sxl_y (wn_none rfl) rfl rfl (yp rfl) ?_
        refine sxl_y (wn_none rfl) rfl rfl (yp rfl) ?_
        refine sxl_does none (wn_none rfl) rfl rfl (fun ρ hρ => does_updI (k := (j : Int)) (v := str (payl t.what j k)) rfl (hρ _ _ rfl) (hρ _ _ rfl) (hρ _ _ rfl) Tryd.underlying36 Tryd.underlying3 hcm10.mnx) ?_
        rintro _ w11 ⟨rfl, hf11, hm11⟩
        rw [strs_upd] at hm11
        have hcm11 := hcm10.mapx hne hf11 hm11
        refine sxl_nil ?_
        refine qx_seq ?_
        refine sx_region ?_
        refine sxl_y (wn_none rfl) rfl rfl (yp rfl) ?_
        refine sxl_y (wn_none rfl) rfl rfl (yp rfl) ?_
        refine sxl_nil ?_
        refine qx_block_normal ?_
        refine qx_seq ?_
        refine sx_region ?_
        refine sxl_y (wn_none rfl) rfl rfl (yp rfl) ?_
        refine sxl_y (wn_none rfl) rfl rfl (y_add rfl rfl rfl (by omega)) ?_
        refine sxl_y (wn_none rfl) rfl rfl (yp rfl) ?_
        refine sxl_nil ?_
        exact qx_again [(20, .int .i64 ((k + 1 : Nat) : Int)), (19, .int .i64 (j : Int)), (12, .int .i64 (i : Int)), (9, .pointer (some ⟨gp, 0, none⟩)), (7, .pointer (some ⟨gd, 0, none⟩)), (5, .pointer (some ⟨gP, 0, none⟩)), (10, .pointer (some ⟨gl, 0, none⟩)), (11, .pointer (some ⟨gx, 0, none⟩)), (0, .slice (some ⟨ab, ao, none⟩) l.length c)] (T - (k + 1)) ⟨k + 1, Q3, _, s3, j, _, rfl, hk, hcm11, hgp3, hgd3, .inl ⟨_, rfl, hg3, htx3, hkp3, .inr (by unfold updS; rw [if_pos rfl]), by rw [hW.waits, List.length_append, secs_len]; omega, by rw [hW.done]; omega⟩, rfl⟩ (by omega) ⟨rfl, rfl, rfl, rfl, rfl, rfl, rfl, rfl, rfl, trivial⟩
      · rw [hok] at hcm10
        rw [hok, if_neg (show ¬ (false = true) by decide)]
        have hho3 : Holds (s2.wrPage j (pageOf j (payl t.what j k))).1.lasts r f := by rw [hlast]; exact hg2.crash _ _ _ j2 hfj _ hjj
        have hln3 : (s2.wrPage j (pageOf j (payl t.what j k))).1.lasts.length = 80 := (s2.wrUpto_len j (pageOf j (payl t.what j k)) 4).trans hln9
        generalize (s2.wrPage j (pageOf j (payl t.what j k))).1 = s3 at hcm10 hdd hho3 hln3
        have hdead3 := dead_any w10 Q3.L.gd s3.dead hcm10.pg.dk.c4
        rw [hgd3, hdd] at hdead3
        refine sxl_y (wn_on rfl rfl rfl) rfl rfl (y_neq_t rfl rfl rfl (by omega)) ?_
        refine sxl_y (wn_on rfl rfl rfl) rfl rfl (yp rfl) ?_
        refine sxl_y (wn_on rfl rfl rfl) rfl rfl (yp rfl) ?_
        refine sxl_pure (wn_on rfl rfl rfl) rfl rfl (yc_call rfl rfl Tryd.call10) (hdead3) ?_
        refine sxl_y (wn_on rfl rfl rfl) rfl rfl (yp rfl) ?_
        refine sxl_y (wn_on rfl rfl rfl) rfl rfl (yp rfl) ?_
        refine sxl_y (wn_none rfl) rfl rfl (yp rfl) ?_
        refine sxl_nil ?_
        refine qx_seq ?_
        refine sx_false rfl ?_
        refine sx_skip ?_
        refine qx_seq ?_
        refine sx_seq ?_
        refine sx_region ?_
        refine sxl_y (wn_none rfl) rfl rfl (yp rfl) ?_
        refine sxl_y (wn_none rfl) rfl rfl (y_load rfl rfl (sc rfl) (by assumption)) ?_
        refine sxl_y (wn_none rfl) rfl rfl (yp rfl) ?_
        refine sxl_y (wn_none rfl) rfl rfl (yp rfl) ?_
        refine sxl_does none (wn_none rfl) rfl rfl (fun ρ hρ => does_updI (k := (j : Int)) (v := str (payl t.what j k)) rfl (hρ _ _ rfl) (hρ _ _ rfl) (hρ _ _ rfl) Tryd.underlying36 Tryd.underlying3 hcm10.mnx) ?_
        rintro _ w11 ⟨rfl, hf11, hm11⟩
        rw [strs_upd] at hm11
        have hcm11 := hcm10.mapx hne hf11 hm11
        refine sxl_nil ?_
        refine qx_seq ?_
        refine sx_region ?_
        refine sxl_y (wn_none rfl) rfl rfl (yp rfl) ?_
        refine sxl_y (wn_none rfl) rfl rfl (yp rfl) ?_
        refine sxl_nil ?_
        refine qx_block_normal ?_
        refine qx_seq ?_
        refine sx_region ?_
        refine sxl_y (wn_none rfl) rfl rfl (yp rfl) ?_
        refine sxl_y (wn_none rfl) rfl rfl (y_add rfl rfl rfl (by omega)) ?_
        refine sxl_y (wn_none rfl) rfl rfl (yp rfl) ?_
        refine sxl_nil ?_
        exact qx_again [(20, .int .i64 ((k + 1 : Nat) : Int)), (19, .int .i64 (j : Int)), (12, .int .i64 (i : Int)), (9, .pointer (some ⟨gp, 0, none⟩)), (7, .pointer (some ⟨gd, 0, none⟩)), (5, .pointer (some ⟨gP, 0, none⟩)), (10, .pointer (some ⟨gl, 0, none⟩)), (11, .pointer (some ⟨gx, 0, none⟩)), (0, .slice (some ⟨ab, ao, none⟩) l.length c)] (T - (k + 1)) ⟨k + 1, Q3, _, s3, j, _, rfl, hk, hcm11, hgp3, hgd3, .inr ⟨hdd, hln3, hho3⟩, rfl⟩ (by omega) ⟨rfl, rfl, rfl, rfl, rfl, rfl, rfl, rfl, rfl, trivial⟩
  clear hkept5 htx hgone hcm5 hdead hcm hgp hgd hor hg hal
  rintro ⟨Q2, p2, s2, root, g2⟩ w6 ⟨hcm6, hgp2, hgd2, htk⟩
  have hcm6 : Cm w w6 Q2 p2 s2 gl gx ml mn gP r 0 f g2 [.slice kA keep.length kc, .int .i64 torn, .int .i64 (cn : Int)] := hcm6
  have hgp2 : Q2.gp = gp := hgp2
  have hgd2 : Q2.L.gd = gd := hgd2
  have hdead2 := dead_any w6 Q2.L.gd s2.dead hcm6.pg.dk.c4
  rw [hgd2] at hdead2
  rcases htk with ⟨st2, e2, hg2, htx2, hkp2, hrt2, hwt2, hdn2⟩ | ⟨hd2, hln2, hho2⟩
  case inr =>
    have hd2 : s2.dead = true := hd2
    have hfin : Fin4 s2 r 0 f g2 := ⟨hd2, hln2, .inl hho2⟩
    rw [hd2] at hdead2
    refine qx_block_hit ?_
    refine qx_seq ?_
    refine sx_seq ?_
    refine sx_seq ?_
    refine sx_region ?_
    refine sxl_y (wn_none rfl) rfl rfl (yp rfl) ?_
    refine sxl_pure (wn_none rfl) rfl rfl (yc_call rfl rfl Tryd.call10) (hdead2) ?_
    refine sxl_nil ?_
    refine qx_seq ?_
    refine sx_true rfl ?_
    refine sx_exit ?_
    refine qx_then_exit ?_
    refine qx_block_miss rfl ?_
    refine qx_then_exit ?_
    refine qx_then_exit ?_
    exact main (Q2, p2, s2, ml, mn, r, 0, f, g2) _ _ ⟨hcm6, hgd2, .inr hfin⟩ ⟨rfl, rfl, rfl, rfl, trivial⟩
  have e2 : p2 = ⟨20, (sq : Int), (r : Int), st2, false⟩ := e2
  subst e2
  have hg2 : DGood s2 sq r qo qc rc f := hg2
  have htx2 : Txs f g2 st2 := htx2
  have hkp2 : Kept s2.shows g2 := hkp2
  have hrt2 : root = 0 ∨ st2 (root : Int) = 3 := hrt2
  have hwt2 : s2.waits.length ≤ 100 * i + 12 := hwt2
  have hdn2 : s2.done ≤ 9 + (100 * i + 12) := hdn2
  rw [hg2.dead] at hdead2
  have hgn2 : PS.gone ⟨20, (sq : Int), (r : Int), st2, false⟩ s2 = false := by unfold PS.gone; rw [hg2.dead]; rfl
  have cc : Cell w6.heap ab (ao + i * 4 + 3) (.bool t.cm) := cc0.fr hcm6.fr (fun hh => hh)
  cases hcmt : t.cm with
  | false =>
    rw [hcmt] at cc
    have hab := abort_f hcm6.pg hgn2
    rw [hgp2] at hab
    refine qx_block_hit ?_
    refine qx_seq ?_
    refine sx_seq ?_
    refine sx_seq ?_
    refine sx_region ?_
    refine sxl_y (wn_none rfl) rfl rfl (yp rfl) ?_
    refine sxl_pure (wn_none rfl) rfl rfl (yc_call rfl rfl Tryd.call10) (hdead2) ?_
    refine sxl_nil ?_
    refine qx_seq ?_
    refine sx_false rfl ?_
    refine sx_skip ?_
    refine qx_seq ?_
    refine sx_seq ?_
    refine sx_seq ?_
    refine sx_region ?_
    refine sxl_y (wn_none rfl) rfl rfl (yp rfl) ?_
    refine sxl_y (wn_none rfl) rfl rfl (yp rfl) ?_
    refine sxl_y (wn_none rfl) rfl rfl (y_indexN rfl rfl rfl (sl rfl) (by omega)) ?_
    refine sxl_y (wn_none rfl) rfl rfl (yp rfl) ?_
    refine sxl_y (wn_none rfl) rfl rfl (y_load rfl rfl (sc rfl) (by assumption)) ?_
    refine sxl_y (wn_none rfl) rfl rfl (yp rfl) ?_
    refine sxl_nil ?_
    refine qx_seq ?_
    refine sx_true rfl ?_
    refine sx_seq ?_
    refine sx_seq ?_
    refine sx_region ?_
    refine sxl_y (wn_none rfl) rfl rfl (yp rfl) ?_
    refine sxl_call (some 219) (by first | exact wn_none rfl | exact wn_on rfl rfl rfl) rfl rfl (yc_call rfl rfl Tryd.call15) (hab) ?_
    rintro _ w7 ⟨rfl, hto7⟩
    refine ⟨_, rfl, ?_⟩
    have hcm7 := hcm6.to hto7 rfl
    have hst7 : (⟨20, (sq : Int), (r : Int), fun k => turnOf 0 1 (st2 k), false⟩ : PS) = ⟨20, (sq : Int), (r : Int), liveSt f, false⟩ := by rw [htx2.undo]
    refine sxl_y (wn_none rfl) rfl rfl (y_neq_f rfl rfl rfl (by omega)) ?_
    refine sxl_nil ?_
    refine qx_seq ?_
    refine sx_false rfl ?_
    refine sx_skip ?_
    refine qx_seq ?_
    refine sx_seq ?_
    refine sx_region ?_
    refine sxl_y (wn_none rfl) rfl rfl (y_loadB rfl rfl hcm7.la Tryd.underlying38 rfl state_size (Nat.le_refl _)) ?_
    refine sxl_does none (wn_none rfl) rfl rfl (fun ρ hρ => does_store 38 (.tmp 11) (.tmp 221) rfl gx 0 38 _ [.int .i64 (r : Int), .map (some ml)] (hρ _ _ rfl) (hρ _ _ rfl) hcm7.nx (by rw [state_size]; rfl) (by simp) (by simp [Value.oneCell'])) ?_
    rintro _ w8 ⟨rfl, hb8, hf8⟩
    have hcm8 := hcm7.setx (r2 := r) (m2 := ml) (f2 := f) hf8 hb8 hcm7.mla (hcm7.off ml (.inr (.inr (.inl rfl))))
    refine sxl_nil ?_
    refine qx_seq ?_
    refine sx_exit ?_
    refine qx_then_exit ?_
    refine qx_block_hit ?_
    refine qx_seq ?_
    refine sx_region ?_
    refine sxl_y (wn_none rfl) rfl rfl (yp rfl) ?_
    refine sxl_y (wn_none rfl) rfl rfl (y_add rfl rfl rfl (by omega)) ?_
    refine sxl_y (wn_none rfl) rfl rfl (yp rfl) ?_
    refine sxl_nil ?_
    exact qx_again [(12, .int .i64 ((i + 1 : Nat) : Int)), (9, .pointer (some ⟨gp, 0, none⟩)), (7, .pointer (some ⟨gd, 0, none⟩)), (5, .pointer (some ⟨gP, 0, none⟩)), (10, .pointer (some ⟨gl, 0, none⟩)), (11, .pointer (some ⟨gx, 0, none⟩)), (0, .slice (some ⟨ab, ao, none⟩) l.length c)] (20 - (i + 1)) ⟨i + 1, Q2, _, s2, ml, ml, r, r, f, f, rfl, by omega, by omega, hcm8, hgp2, hgd2, .inl ⟨sq, qo, qc, rc, hst7, hg2, by omega, by omega, by omega⟩, rfl⟩ (by omega) ⟨rfl, rfl, rfl, rfl, rfl, rfl, rfl, trivial⟩
  | true =>
    rw [hcmt] at cc
    have hroot : RootOk 20 root := by
      rcases hrt2 with h | h
      · exact .inl h
      · right
        have hgr : g2 (root : Int) ≠ none := by
          cases hf : f (root : Int) with
          | none =>
            rcases htx2.new _ hf with ⟨h1, _⟩ | ⟨_, h1⟩
            · omega
            · exact h1
          | some y => rcases htx2.old _ (by rw [hf]; intro e; cases e) with ⟨h1, _⟩ | ⟨h1, _⟩ <;> omega
        cases hgv : g2 (root : Int) with
        | none => exact absurd hgv hgr
        | some y => obtain ⟨q1, q2, _⟩ := hkp2 _ y hgv; omega
    have hln2 := hg2.len
    have hcmo := commit_ok hcm6.pg sq root hgn2 rfl (by omega) (by
      rcases hroot with h | ⟨h1, h2⟩
      · exact .inl h
      · refine .inr ⟨by rw [at_in hgn2 (by omega) (by show (root : Int) < ((20 : Nat) : Int); omega)], .inr (hrt2.resolve_left (by omega))⟩) (show 20 * 4 ≤ s2.lasts.length by rw [hln2]; decide) (show 3 ≤ 20 by decide) (by omega)
    rw [hgp2] at hcmo
    refine qx_block_hit ?_
    refine qx_seq ?_
    refine sx_seq ?_
    refine sx_seq ?_
    refine sx_region ?_
    refine sxl_y (wn_none rfl) rfl rfl (yp rfl) ?_
    refine sxl_pure (wn_none rfl) rfl rfl (yc_call rfl rfl Tryd.call10) (hdead2) ?_
    refine sxl_nil ?_
    refine qx_seq ?_
    refine sx_false rfl ?_
    refine sx_skip ?_
    refine qx_seq ?_
    refine sx_seq ?_
    refine sx_seq ?_
    refine sx_region ?_
    refine sxl_y (wn_none rfl) rfl rfl (yp rfl) ?_
    refine sxl_y (wn_none rfl) rfl rfl (yp rfl) ?_
    refine sxl_y (wn_none rfl) rfl rfl (y_indexN rfl rfl rfl (sl rfl) (by omega)) ?_
    refine sxl_y (wn_none rfl) rfl rfl (yp rfl) ?_
    refine sxl_y (wn_none rfl) rfl rfl (y_load rfl rfl (sc rfl) (by assumption)) ?_
    refine sxl_y (wn_none rfl) rfl rfl (yp rfl) ?_
    refine sxl_nil ?_
    refine qx_seq ?_
    refine sx_false rfl ?_
    refine sx_skip ?_
    refine qx_seq ?_
    refine sx_seq ?_
    refine sx_region ?_
    refine sxl_y (wn_none rfl) rfl rfl (yp rfl) ?_
    refine sxl_y (wn_none rfl) rfl rfl (yp rfl) ?_
    refine sxl_does none (wn_none rfl) rfl rfl (fun ρ hρ => does_store1 3 (.tmp 223) _ rfl gx 0 38 _ (.int .i64 (root : Int)) (hρ _ _ rfl) (hρ _ _ rfl) rfl hcm6.nx (by kernel_rfl) (by simp) rfl) ?_
    rintro _ w7 ⟨rfl, hb7, hf7⟩
    have hcm7 := hcm6.setx (r2 := root) (m2 := mn) (f2 := g2) hf7 hb7 hcm6.mnx (hcm6.off mn (.inr (.inr (.inr (.inl rfl)))))
    have hcmo := commit_ok hcm7.pg sq root hgn2 rfl (by omega) (by
      rcases hroot with h | ⟨h1, h2⟩
      · exact .inl h
      · refine .inr ⟨by rw [at_in hgn2 (by omega) (by show (root : Int) < ((20 : Nat) : Int); omega)], .inr (hrt2.resolve_left (by omega))⟩) (show 20 * 4 ≤ s2.lasts.length by rw [hln2]; decide) (show 3 ≤ 20 by decide) (by omega)
    rw [hgp2] at hcmo
    refine sxl_nil ?_
    refine qx_seq ?_
    refine sx_seq ?_
    refine sx_region ?_
    refine sxl_y (wn_none rfl) rfl rfl (yp rfl) ?_
    refine sxl_y (wn_none rfl) rfl rfl (yp rfl) ?_
    refine sxl_call (some 226) (by first | exact wn_none rfl | exact wn_on rfl rfl rfl) rfl rfl (yc_call rfl rfl Tryd.call16) (hcmo) ?_
    rintro _ w8 ⟨Q3, rfl, hto8⟩
    refine ⟨_, rfl, ?_⟩
    have hkp8 := DS.commit_keep s2 ((sq + 1) % 2) (pageOf ((sq + 1) % 2) (metaB (sq + 1) root))
    have hlen8 := s2.commit_len ((sq + 1) % 2) (pageOf ((sq + 1) % 2) (metaB (sq + 1) root))
    have hcm8 := hcm7.to hto8 hkp8
    have hgp3 : Q3.gp = gp := hto8.gp.trans hgp2
    have hgd3 : Q3.L.gd = gd := hto8.gd.trans hgd2
    have hres := hg2.commit hroot hkp2 (by omega)
    rw [show metaP ((sq + 1) % 2) (sq + 1) root = pageOf ((sq + 1) % 2) (metaB (sq + 1) root) from rfl] at hres
    generalize s2.commit ((sq + 1) % 2) (pageOf ((sq + 1) % 2) (metaB (sq + 1) root)) = cmt at hcm8 hres hlen8
    clear hcmo hto8 hkp8
    rcases hres with ⟨hok, hg8, hdn8, hwt8⟩ | ⟨hok, hdd8, hho8⟩
    · rw [hok, if_pos rfl] at hcm8
      rw [hok, if_pos rfl]
      have hst8 : PS.commit ⟨20, (sq : Int), (r : Int), st2, false⟩ root = ⟨20, ((sq + 1 : Nat) : Int), (root : Int), liveSt g2, false⟩ := by
        unfold PS.commit
        rw [show (fun k => turnOf 1 0 ((⟨20, (sq : Int), (r : Int), st2, false⟩ : PS).st k)) = liveSt g2 from htx2.done]
        rfl
      rw [hst8] at hcm8
      refine sxl_y (wn_none rfl) rfl rfl (yp rfl) ?_
      refine sxl_nil ?_
      refine qx_seq ?_
      refine sx_seq ?_
      refine sx_region ?_
      refine sxl_y (wn_none rfl) rfl rfl (yp rfl) ?_
      refine sxl_y (wn_none rfl) rfl rfl (y_eql_t rfl rfl rfl (by omega)) ?_
      refine sxl_nil ?_
      refine qx_seq ?_
      refine sx_true rfl ?_
      refine sx_region ?_
      refine sxl_y (wn_none rfl) rfl rfl (y_loadB rfl rfl hcm8.nx Tryd.underlying38 rfl state_size (Nat.le_refl _)) ?_
      refine sxl_does none (wn_none rfl) rfl rfl (fun ρ hρ => does_store 38 (.tmp 10) (.tmp 229) rfl gl 0 38 _ [.int .i64 (root : Int), .map (some mn)] (hρ _ _ rfl) (hρ _ _ rfl) hcm8.la (by rw [state_size]; rfl) (by simp) (by simp [Value.oneCell'])) ?_
      rintro _ w9 ⟨rfl, hb9, hf9⟩
      have hcm9 := hcm8.setl hf9 hb9
      refine sxl_nil ?_
      refine qx_block_normal ?_
      refine qx_seq ?_
      refine sx_region ?_
      refine sxl_y (wn_none rfl) rfl rfl (yp rfl) ?_
      refine sxl_y (wn_none rfl) rfl rfl (y_add rfl rfl rfl (by omega)) ?_
      refine sxl_y (wn_none rfl) rfl rfl (yp rfl) ?_
      refine sxl_nil ?_
      exact qx_again [(12, .int .i64 ((i + 1 : Nat) : Int)), (9, .pointer (some ⟨gp, 0, none⟩)), (7, .pointer (some ⟨gd, 0, none⟩)), (5, .pointer (some ⟨gP, 0, none⟩)), (10, .pointer (some ⟨gl, 0, none⟩)), (11, .pointer (some ⟨gx, 0, none⟩)), (0, .slice (some ⟨ab, ao, none⟩) l.length c)] (20 - (i + 1)) ⟨i + 1, Q3, _, cmt.1, mn, mn, root, root, g2, g2, rfl, by omega, by omega, hcm9, hgp3, hgd3, .inl ⟨sq + 1, _, _, _, rfl, hg8, by omega, by rw [hwt8]; exact Nat.zero_le _, by rw [hdn8]; omega⟩, rfl⟩ (by omega) ⟨rfl, rfl, rfl, rfl, rfl, rfl, rfl, trivial⟩
    · rw [hok, if_neg (show ¬ (false = true) by decide)] at hcm8
      rw [hok, if_neg (show ¬ (false = true) by decide)]
      have hdead8 := dead_any w8 Q3.L.gd cmt.1.dead hcm8.pg.dk.c4
      rw [hgd3, hdd8] at hdead8
      refine sxl_y (wn_none rfl) rfl rfl (yp rfl) ?_
      refine sxl_nil ?_
      refine qx_seq ?_
      refine sx_seq ?_
      refine sx_region ?_
      refine sxl_y (wn_none rfl) rfl rfl (yp rfl) ?_
      refine sxl_y (wn_none rfl) rfl rfl (y_eql_f rfl rfl rfl (by omega)) ?_
      refine sxl_nil ?_
      refine qx_seq ?_
      refine sx_false rfl ?_
      refine sx_seq ?_
      refine sx_region ?_
      refine sxl_y (wn_none rfl) rfl rfl (yp rfl) ?_
      refine sxl_pure (wn_none rfl) rfl rfl (yc_call rfl rfl Tryd.call10) (hdead8) ?_
      refine sxl_y (wn_none rfl) rfl rfl (yp rfl) ?_
      refine sxl_nil ?_
      refine qx_seq ?_
      refine sx_false rfl ?_
      refine sx_skip ?_
      refine qx_block_normal ?_
      refine qx_seq ?_
      refine sx_region ?_
      refine sxl_y (wn_none rfl) rfl rfl (yp rfl) ?_
      refine sxl_y (wn_none rfl) rfl rfl (y_add rfl rfl rfl (by omega)) ?_
      refine sxl_y (wn_none rfl) rfl rfl (yp rfl) ?_
      refine sxl_nil ?_
      exact qx_again [(12, .int .i64 ((i + 1 : Nat) : Int)), (9, .pointer (some ⟨gp, 0, none⟩)), (7, .pointer (some ⟨gd, 0, none⟩)), (5, .pointer (some ⟨gP, 0, none⟩)), (10, .pointer (some ⟨gl, 0, none⟩)), (11, .pointer (some ⟨gx, 0, none⟩)), (0, .slice (some ⟨ab, ao, none⟩) l.length c)] (20 - (i + 1)) ⟨i + 1, Q3, _, cmt.1, ml, mn, r, root, f, g2, rfl, by omega, by omega, hcm8, hgp3, hgd3, .inr ⟨hdd8, hlen8.trans hln2, hho8⟩, rfl⟩ (by omega) ⟨rfl, rfl, rfl, rfl, rfl, rfl, rfl, trivial⟩
end Go.Proofs.YthdlljlcffokbaaDoor
