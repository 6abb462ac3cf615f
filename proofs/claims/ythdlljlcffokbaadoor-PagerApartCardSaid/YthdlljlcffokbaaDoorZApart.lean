/- The law PagerApart, walked. No condition. -/
import Derived.Test.YthdlljlcffokbaaDoorZApart0
import Derived.Test.YthdlljlcffokbaaDoorZb4
import Derived.Test.YthdlljlcffokbaaDoorZb8
namespace Go.Proofs.YthdlljlcffokbaaDoor
open Go.RowKit

/-- A pager and its disk, all new. -/
structure Sd (w0 w : World) (Q : PL) (p : PS) (s : DS) : Prop where
  pg : PgAt w Q p s
  own : ∀ b, Q.blocks b → w0.heap.size ≤ b
  fr : Fr0 w0 w
theorem Sd.to {w0 w w' : World} {Q Q' : PL} {p p' : PS} {s s' : DS} (h : Sd w0 w Q p s) (h' : PgTo w w' Q Q' p' s') : Sd w0 w' Q' p' s' where
  pg := h'.pg
  own := fun b hb => by
    rcases h'.bl b hb with hb | hb
    · exact h.own b hb
    · exact Nat.le_trans h.fr.size hb
  fr := h.fr.step h'.fr (fun b hb e => by have := h.own b e; omega)
theorem Sd.fr0 {w0 w w' : World} {Q : PL} {p : PS} {s : DS} (h : Sd w0 w Q p s) (hf : Fr0 w w') : Sd w0 w' Q p s := h.to (.refl h.pg hf)
/-- A list of numbers beside the pager. -/
structure Lst (w : World) (Q : PL) (A : Option Addr) (l : List Int) : Prop where
  rd : Rd w A l.length (iv l)
  nb : ∀ b off, A = some ⟨b, off, none⟩ → ¬ Q.blocks b ∧ b < w.heap.size
theorem Lst.to {w w' : World} {Q Q' : PL} {A : Option Addr} {l : List Int} {p' : PS} {s' : DS} (h : Lst w Q A l) (h' : PgTo w w' Q Q' p' s') : Lst w' Q' A l where
  rd := h.rd.fr h'.fr (fun _ b off e => (h.nb b off e).1)
  nb := fun b off e => by
    obtain ⟨h1, h2⟩ := h.nb b off e
    refine ⟨fun hb => ?_, Nat.lt_of_lt_of_le h2 h'.fr.size⟩
    rcases h'.bl b hb with hb | hb
    · exact h1 hb
    · omega
theorem Lst.fr0 {w w' : World} {Q : PL} {A : Option Addr} {l : List Int} (h : Lst w Q A l) (hf : Fr0 w w') : Lst w' Q A l := ⟨h.rd.fr0 hf, fun b off e => ⟨(h.nb b off e).1, Nat.lt_of_lt_of_le (h.nb b off e).2 hf.size⟩⟩
section
variable {P : Program} {e : Env} {w : World} {o : Oper}
theorem y_remN {t t' : Nat} {k : IntKind} {a b : Nat} {x y : Operand} (ho : o.op = .binOp .rem t x y t') (hx : ev e x = some (.int k (a : Int))) (hy : ev e y = some (.int k (b : Int))) (hb : 0 < b) : Y P e o w (.int k ((a % b : Nat) : Int)) := by
  have := y_rem (P := P) (w := w) ho hx hy (by omega) (by omega)
  rw [show ((a : Int) % (b : Int)) = ((a % b : Nat) : Int) from by omega] at this
  exact this
end
theorem info_int : (Tryd.prog.info? 3).map (fun i => (i.zero, i.size, i.bytes)) = some (some (.int .i64 0), 1, 8) := by kernel_rfl
theorem rd_u8 {w : World} {A : Option Addr} {n : Nat} {l : List UInt8} (hr : Rd w A n (bvs l)) {i : Nat} {c : UInt8} (hx : l[i]? = some c) : ∃ b off, A = some ⟨b, off, none⟩ ∧ Cell w.heap b (off + i * 1) (.int .u8 (c.toNat : Int)) := by
  have hi := (List.getElem?_eq_some_iff.1 hx).1
  have hn : l.length = n := by rw [← bvs_length, hr.1]
  obtain ⟨b, off, e, hc⟩ := hr.2 (by omega)
  refine ⟨b, off, e, Cell.of ?_⟩
  rw [Nat.mul_one]
  exact hc i _ (by unfold bvs; rw [List.getElem?_map, hx]; rfl)
theorem wrapN (a : Int) : ∃ U : Nat, IntKind.u64.wrap a = (U : Int) ∧ U < 18446744073709551616 :=
  ⟨(IntKind.u64.wrap a).toNat, by rw [IntKind.wrap_u64]; omega, by rw [IntKind.wrap_u64]; omega⟩
theorem DS.fmt_facts {s : DS} (hd : s.dead = false) (hfs : s.fset = false) : s.fmt.dead = false ∧ s.fmt.fset = false ∧ s.fmt.done = s.done + 9 ∧ s.fmt.lasts.length = s.lasts.length := by
  obtain ⟨ok1, fs1⟩ := DS.wrUpto_safe s 1 (pageOf 1 (metaB 0 0)) hfs 4
  obtain ⟨hd1, _, hdn1⟩ := s.wrUpto_ok 1 (pageOf 1 (metaB 0 0)) hd 4 ok1
  have hl1 := s.wrUpto_len 1 (pageOf 1 (metaB 0 0)) 4
  obtain ⟨ok2, fs2⟩ := DS.wrUpto_safe s.fmt1 0 (pageOf 0 (metaB 1 0)) fs1 4
  obtain ⟨hd2, _, hdn2⟩ := s.fmt1.wrUpto_ok 0 (pageOf 0 (metaB 1 0)) hd1 4 ok2
  have hl2 := s.fmt1.wrUpto_len 0 (pageOf 0 (metaB 1 0)) 4
  have fs2 : s.fmt2.fset = false := fs2
  have hdn1 : s.fmt1.done = s.done + 4 := hdn1
  have hdn2 : s.fmt2.done = s.fmt1.done + 4 := hdn2
  obtain ⟨b1, b2⟩ := DS.burnt_fset fs2
  have hf0 : s.fmt2.flushes.2 = 0 := by unfold DS.flushes; rw [if_neg (by rw [b2]; decide)]
  obtain ⟨e1, _, e3, e4⟩ := DS.flush_facts hf0
  refine ⟨e1.trans hd2, ?_, by unfold DS.fmt; omega, e4.trans (hl2.trans hl1)⟩
  have : s.fmt = s.fmt2.burnt.flush := by unfold DS.fmt DS.flushes; rw [if_neg (by rw [b2]; decide)]
  rw [this, b1]
  exact fs2
theorem DS.commit_safe {s : DS} (hfs : s.fset = false) (n : Nat) (b : List UInt8) : (s.commit n b).2 = true := by
  obtain ⟨b1, b2⟩ := DS.burnt_fset hfs
  have hf0 : s.flushes = (s.flush, 0) := by unfold DS.flushes; rw [if_neg (by rw [b2]; decide), b1]
  have hfs1 : s.flush.fset = false := hfs
  obtain ⟨ok, fs⟩ := DS.wrUpto_safe s.flush n b hfs1 4
  have ok : (s.flush.wrPage n b).2 = true := ok
  have fs : (s.flush.wrPage n b).1.fset = false := fs
  obtain ⟨_, b4⟩ := DS.burnt_fset fs
  have hf2 : (s.flush.wrPage n b).1.flushes.2 = 0 := by unfold DS.flushes; rw [if_neg (by rw [b4]; decide)]
  unfold DS.commit
  rw [hf0]
  simp [ok, hf2]
theorem at_in {p : PS} {s : DS} {n : Int} (hg : p.gone s = false) (h1 : 2 ≤ n) (h2 : n < p.pages) : p.at_ s n = (p.st n, 0) := by
  unfold PS.at_; rw [hg, if_neg (by decide), if_neg (by omega)]
section
variable {w : World} {Q : PL} {p : PS} {s : DS}
theorem drop_1 (h : PgAt w Q p s) {n : Int} (hg : p.gone s = false) (h1 : 2 ≤ n) (h2 : n < p.pages) (hs : p.st n = 1) : Calls Tryd.prog 11 #[.pointer (some ⟨Q.gp, 0, none⟩), .int .i64 n] w fun e w' => e = .returned (.int .i64 0) ∧ PgTo w w' Q Q { p with st := updS p.st n 4 } s := by
  have := drop_any h n
  have e : p.drop s n = ({ p with st := updS p.st n 4 }, 0) := by unfold PS.drop; rw [at_in hg h1 h2, hs]; simp
  rw [e] at this; exact this
theorem drop_4 (h : PgAt w Q p s) {n : Int} (hg : p.gone s = false) (h1 : 2 ≤ n) (h2 : n < p.pages) (hs : p.st n = 4) : Calls Tryd.prog 11 #[.pointer (some ⟨Q.gp, 0, none⟩), .int .i64 n] w fun e w' => e = .returned (.int .i64 250) ∧ PgTo w w' Q Q p s := by
  have := drop_any h n
  have e : p.drop s n = (p, 250) := by unfold PS.drop; rw [at_in hg h1 h2, hs]; simp
  rw [e] at this; exact this
theorem use_new (h : PgAt w Q p s) (A : Option Addr) (l : List Int) (c : Nat) (hr : Rd w A l.length (iv l)) (hl : l.length ≤ 1000000) (hA : ∀ b off, A = some ⟨b, off, none⟩ → b ≠ Q.gp) (hg : p.gone s = false) (hst : ∀ k, p.st k ≤ 1) (hn : l.Nodup) (hin : ∀ n ∈ l, 2 ≤ n ∧ n < (p.pages : Int)) :
    Calls Tryd.prog 21 #[.pointer (some ⟨Q.gp, 0, none⟩), .slice A l.length c] w fun e w' => ∃ Q', e = .returned (.int .i64 0) ∧ PgTo w w' Q Q' { p with st := usedOf l } s :=
  (use_any h A l c hr hl hA).mono fun e w' ⟨a, Q', p', he, hu, ht⟩ => by
    rcases hu with ⟨hh, _⟩ | ⟨_, ⟨⟨k, hk⟩, _⟩ | ⟨_, ⟨⟨n, hn1, hn2⟩, _⟩ | ⟨_, ⟨hh, _⟩ | ⟨_, rfl, rfl⟩⟩⟩⟩
    · rw [hg] at hh; cases hh
    · have := hst k; omega
    · have := hin n hn1; omega
    · exact absurd hn hh
    · exact ⟨Q', he, ht⟩
theorem free_at (h : PgAt w Q p s) (hp : p.pages ≤ 100000) {F : Nat} (hF : freeUpto p.st p.pages = F) : Calls Tryd.prog 22 #[.pointer (some ⟨Q.gp, 0, none⟩)] w fun e w' => e = .returned (.int .i64 (F : Int)) ∧ w = w' := by
  have := free_ok h hp
  rw [show p.free = F from hF] at this
  exact this
end
theorem cnt4_used (l : List Int) : cnt4 (usedOf l) l = 0 := by
  unfold cnt4
  rw [List.length_eq_zero_iff, List.filter_eq_nil_iff]
  intro k hk
  simp [usedOf, hk]
/-- How the pages stand while some are taken. -/
structure Tkn (l : List Int) (st : Int → Int) (last : Nat) : Prop where
  inn : ∀ k ∈ l, st k = 1 ∨ st k = 4
  out : ∀ k, k ∉ l → st k = 0 ∨ st k = 2
  upto : ∀ i : Nat, 2 ≤ i → i ≤ last → st (i : Int) ≠ 0
theorem Tkn.take {l : List Int} {st : Int → Int} {last j : Nat} (h : Tkn l st last) (hz : st (j : Int) = 0) (hb : ∀ i : Nat, 2 ≤ i → i < j → st (i : Int) ≠ 0) : (j : Int) ∉ l ∧ Tkn l (updS st j 2) j := by
  have hj : (j : Int) ∉ l := fun e => by have := h.inn _ e; omega
  refine ⟨hj, fun k hk => ?_, fun k hk => ?_, fun i h1 h2 => ?_⟩
  · unfold updS; rw [if_neg (fun (e : k = (j : Int)) => hj (e ▸ hk))]; exact h.inn k hk
  · unfold updS; by_cases e : k = j
    · rw [if_pos e]; exact .inr rfl
    · rw [if_neg e]; exact h.out k hk
  · unfold updS
    by_cases e : i = j
    · rw [if_pos (by omega)]; decide
    · rw [if_neg (by omega)]; exact hb i h1 (by omega)
theorem Tkn.undo {l : List Int} {st : Int → Int} {last : Nat} (h : Tkn l st last) : (fun k => turnOf 0 1 (st k)) = usedOf l := by
  funext k
  unfold usedOf
  by_cases hk : k ∈ l
  · rw [if_pos hk]
    rcases h.inn k hk with e | e <;> rw [e] <;> decide
  · rw [if_neg hk]
    rcases h.out k hk with e | e <;> rw [e] <;> decide
def dropOf (l : List Int) (i : Nat) : Int → Int := fun k => if k ∈ l.take i then 4 else usedOf l k
theorem dropOf_step {l : List Int} {i : Nat} {n : Int} (h : l[i]? = some n) : updS (dropOf l i) n 4 = dropOf l (i + 1) := by
  funext k
  unfold updS dropOf
  rw [take_snoc h]
  by_cases hk : k = n
  · simp [hk]
  · simp [hk]
theorem dropOf_at {l : List Int} (hn : l.Nodup) {i : Nat} {n : Int} (h : l[i]? = some n) : dropOf l i n = 1 := by
  have hm : n ∈ l := List.mem_of_getElem? h
  have hnot : n ∉ l.take i := by
    have h1 : (l.take (i + 1)).Nodup := hn.sublist (List.take_sublist _ _)
    rw [take_snoc h, nodup_snoc] at h1
    exact h1.2
  unfold dropOf usedOf
  rw [if_neg hnot, if_pos hm]
theorem dropOf_end (l : List Int) : (fun k => turnOf 1 0 (dropOf l l.length k)) = fun _ => 0 := by
  funext k
  unfold dropOf usedOf
  rw [List.take_length]
  by_cases hk : k ∈ l
  · rw [if_pos hk]; decide
  · rw [if_neg hk, if_neg hk]; decide
set_option maxHeartbeats 32000000 in
theorem apart_ok (a : Int) (A1 : Option Addr) (c1 : Nat) (u : List Int) (A2 : Option Addr) (c2 : Nat) (dr : List UInt8) (tk : UInt8) (w : World) (hr1 : Rd w A1 u.length (iv u)) (hr2 : Rd w A2 dr.length (bvs dr)) :
    Calls Tryd.prog 4 #[.int .i64 a, .slice A1 u.length c1, .slice A2 dr.length c2, .int .u8 (tk.toNat : Int)] w fun e w' => e = .returned (.bool true) ∧ Fr0 w w' := by
  obtain ⟨U, hU, hU2⟩ := wrapN a
  obtain ⟨N, hN⟩ : ∃ N, N = 3 + U % 30 := ⟨_, rfl⟩
  have hN1 : 3 ≤ N := by omega
  have hN2 : N ≤ 32 := by omega
  have hUN : IntKind.i64.wrap (((U % 30 : Nat) : Int)) = ((U % 30 : Nat) : Int) := by rw [IntKind.wrap_i64]; omega
  have e30 : ((30 : Nat) : Int) = 30 := rfl
  refine sx_enter (vs := [_, _, _, _]) Tryd.func4 rfl Tryd.ntmps4 rfl ?_
  refine sx_seq ?_
  refine sx_region ?_
  refine sxl_y (wn_none rfl) rfl rfl (yp rfl) ?_
  refine sxl_nil ?_
  refine qx_seq ?_
  refine sx_seq ?_
  refine sx_region ?_
  refine sxl_y (wn_none rfl) rfl rfl (yp rfl) ?_
  refine sxl_y (wn_none rfl) rfl rfl (y_convInt rfl rfl Tryd.underlying3 Tryd.underlying35 hU) ?_
  refine sxl_y (wn_none rfl) rfl rfl (y_remN (b := 30) rfl rfl rfl (by decide)) ?_
  refine sxl_y (wn_none rfl) rfl rfl (y_convInt rfl rfl Tryd.underlying35 Tryd.underlying3 hUN) ?_
  refine sxl_y (wn_none rfl) rfl rfl (y_add rfl rfl rfl (by omega)) ?_
  refine sxl_y (wn_none rfl) rfl rfl (yp rfl) ?_
  refine sxl_nil ?_
  refine qx_seq ?_
  refine sx_seq ?_
  refine sx_region ?_
  refine sxl_y (wn_none rfl) rfl rfl (yp rfl) ?_
  refine sxl_y (wn_none rfl) rfl rfl (y_mul rfl rfl rfl (by omega)) ?_
  rw [show ((3 : Int) + ((U % 30 : Nat) : Int)) = (N : Int) from by omega]
  refine sxl_call (some 34) (by first | exact wn_none rfl | exact wn_on rfl rfl rfl) rfl rfl (yc_call rfl rfl Tryd.call7) (new_ok (N * 4) w (by omega) (by omega)) ?_
  rintro _ w1 ⟨L, rfl, hdk, hLn, hf1⟩
  refine ⟨_, rfl, ?_⟩
  refine sxl_y (wn_none rfl) rfl rfl (yp rfl) ?_
  refine sxl_y (wn_none rfl) rfl rfl (yp rfl) ?_
  refine sxl_y (wn_none rfl) rfl rfl (yp rfl) ?_
  refine sxl_y (wn_none rfl) rfl rfl (yp rfl) ?_
  refine sxl_y (wn_none rfl) rfl rfl (yp rfl) ?_
  refine sxl_nil ?_
  refine qx_seq ?_
  refine sx_seq ?_
  refine sx_seq ?_
  refine sx_region ?_
  refine sxl_y (wn_none rfl) rfl rfl (yp rfl) ?_
  refine sxl_y (wn_none rfl) rfl rfl (y_neq_f rfl rfl rfl (by omega)) ?_
  refine sxl_y (wn_none rfl) rfl rfl (yp rfl) ?_
  refine sxl_call (some 40) (by first | exact wn_none rfl | exact wn_on rfl rfl rfl) rfl rfl (yc_call rfl rfl Tryd.call6) (awake_calls w1) ?_
  rintro _ w2 ⟨rfl, hf2⟩
  refine ⟨_, rfl, ?_⟩
  have hlen : (newDS (N * 4)).lasts.length = N * 4 := by simp [newDS]
  have hdk2 := hdk.fr0 hf2
  refine sxl_y (wn_on rfl rfl rfl) rfl rfl (yp rfl) ?_
  refine sxl_y (wn_none rfl) rfl rfl (yp rfl) ?_
  refine sxl_nil ?_
  refine qx_seq ?_
  refine sx_false rfl ?_
  refine sx_skip ?_
  refine qx_seq ?_
  refine sx_seq ?_
  refine sx_region ?_
  refine sxl_y (wn_none rfl) rfl rfl (yp rfl) ?_
  refine sxl_call (some 45) (by first | exact wn_none rfl | exact wn_on rfl rfl rfl) rfl rfl (yc_call rfl rfl Tryd.call8) (format_ok L hdk2 rfl rfl (by rw [hlen]; omega) (by simp [newDS]) (by simp [newDS])) ?_
  rintro _ w3 ⟨Q, rfl, hnew⟩
  refine ⟨_, rfl, ?_⟩
  obtain ⟨fd, ffs, fdn, fln⟩ := DS.fmt_facts (s := newDS (N * 4)) rfl rfl
  rw [hlen] at fln
  rw [show (newDS (N * 4)).done + 9 = 9 from rfl] at fdn
  rw [hlen, Nat.mul_div_cancel _ (by decide)] at hnew
  have hz12 := (hf1.trans hf2).size
  have hsd : Sd w w3 Q ⟨N, 1, 0, fun _ => 0, false⟩ (newDS (N * 4)).fmt := ⟨hnew.pg, fun b hb => by
    rcases hnew.bl b hb with hb | hb
    · exact hLn b hb
    · omega, (hf1.trans hf2).step hnew.fr (fun b hb e => by have := hLn b e; omega)⟩
  generalize (newDS (N * 4)).fmt = s at hsd fd ffs fdn fln
  clear hdk hdk2 hnew hlen hLn
  have hz3 := hsd.fr.size
  refine sxl_y (wn_none rfl) rfl rfl (yp rfl) ?_
  refine sxl_y (wn_none rfl) rfl rfl (yp rfl) ?_
  refine sxl_y (wn_none rfl) rfl rfl (yp rfl) ?_
  refine sxl_y (wn_none rfl) rfl rfl (yp rfl) ?_
  refine sxl_y (wn_none rfl) rfl rfl (yp rfl) ?_
  refine sxl_nil ?_
  refine qx_seq ?_
  refine sx_seq ?_
  refine sx_seq ?_
  refine sx_region ?_
  refine sxl_y (wn_none rfl) rfl rfl (yp rfl) ?_
  refine sxl_y (wn_none rfl) rfl rfl (y_neq_f rfl rfl rfl (by omega)) ?_
  refine sxl_nil ?_
  refine qx_seq ?_
  refine sx_false rfl ?_
  refine sx_skip ?_
  refine qx_seq ?_
  refine sx_seq ?_
  refine sx_region ?_
  refine sxl_y (wn_none rfl) rfl rfl (yp rfl) ?_
  refine sxl_nil ?_
  refine qx_seq ?_
  refine sx_seq ?_
  refine sx_seq ?_
  refine sx_region ?_
  refine sxl_y (wn_none rfl) rfl rfl (yp rfl) ?_
  refine sxl_nil ?_
  refine qx_seq ?_
  refine sx_block ?_
  refine sx_loop (fun e wr m => ∃ (i : Nat) (l : List Int) (A : Option Addr) (c : Nat), e = [(13, .int .i64 (i : Int)), (12, .slice A l.length c), (11, .pointer (some ⟨Q.gp, 0, none⟩)), (0, .int .i64 (N : Int)), (1, .slice A1 u.length c1), (2, .slice A2 dr.length c2), (3, .int .u8 (tk.toNat : Int))] ∧ i ≤ 40 ∧ i ≤ u.length ∧ l.length ≤ i ∧ l.Nodup ∧ (∀ k ∈ l, 2 ≤ k ∧ k < (N : Int)) ∧ wr.ownsRow w3.heap.size 3 1 (.slice A l.length c) l.length (iv l) ∧ Fr0 w3 wr ∧ m = 40 - i)
    ⟨0, [], none, 0, rfl, Nat.zero_le _, Nat.zero_le _, Nat.le_refl _, List.nodup_nil, (fun k hk => by cases hk), World.ownsRow_nil _ _ _ _, Fr.refl, rfl⟩ ⟨rfl, rfl, rfl, rfl, rfl, rfl, rfl, trivial⟩ ?_
  rintro _ wr _ ⟨i, l, A, c, rfl, hi40, hiu, hli, hnd, hin, hown, hfr, rfl⟩
  have hown' := hown
  obtain ⟨A', c', eA, _, _, hrl, hnb⟩ := own_form hown
  injection eA with eA1 _ eA3
  subst eA1 eA3
  have hzr := hfr.size
  by_cases hgo : i < u.length ∧ i < 40
  · obtain ⟨hlt, h40⟩ := hgo
    obtain ⟨x, hx⟩ : ∃ x, u[i]? = some x := ⟨_, List.getElem?_eq_getElem hlt⟩
    obtain ⟨b1, o1, rfl, ce1⟩ := rd_int (hr1.fr0 (hsd.fr.trans hfr)) hx
    obtain ⟨X, hX, hX2⟩ := wrapN x
    obtain ⟨n, hn⟩ : ∃ n : Int, n = 2 + ((X % (N - 2) : Nat) : Int) := ⟨_, rfl⟩
    have hXlt : X % (N - 2) < N - 2 := Nat.mod_lt _ (by omega)
    have hNm : IntKind.u64.wrap ((N : Int) - 2) = ((N - 2 : Nat) : Int) := by rw [IntKind.wrap_u64]; omega
    have hXb : IntKind.i64.wrap ((X % (N - 2) : Nat) : Int) = ((X % (N - 2) : Nat) : Int) := by rw [IntKind.wrap_i64]; omega
    refine sx_seq ?_
    refine sx_seq ?_
    refine sx_region ?_
    refine sxl_y (wn_none rfl) rfl rfl (yp rfl) ?_
    refine sxl_y (wn_none rfl) rfl rfl (yp rfl) ?_
    refine sxl_y (wn_none rfl) rfl rfl (y_len rfl rfl (sl rfl)) ?_
    refine sxl_y (wn_none rfl) rfl rfl (y_lss_t rfl rfl rfl (by omega)) ?_
    refine sxl_y (wn_none rfl) rfl rfl (yp rfl) ?_
    refine sxl_y (wn_on rfl rfl rfl) rfl rfl (yp rfl) ?_
    refine sxl_y (wn_on rfl rfl rfl) rfl rfl (y_lss_t rfl rfl rfl (by omega)) ?_
    refine sxl_y (wn_none rfl) rfl rfl (yp rfl) ?_
    refine sxl_nil ?_
    refine qx_seq ?_
    refine sx_true rfl ?_
    refine sx_skip ?_
    refine qx_seq ?_
    refine sx_seq ?_
    refine sx_block ?_
    refine sx_seq ?_
    refine sx_region ?_
    refine sxl_y (wn_none rfl) rfl rfl (yp rfl) ?_
    refine sxl_y (wn_none rfl) rfl rfl (yp rfl) ?_
    refine sxl_y (wn_none rfl) rfl rfl (y_indexN rfl rfl rfl (sl rfl) (by omega)) ?_
    refine sxl_y (wn_none rfl) rfl rfl (y_load rfl rfl (sc rfl) (by assumption)) ?_
    refine sxl_y (wn_none rfl) rfl rfl (y_convInt rfl rfl Tryd.underlying3 Tryd.underlying35 hX) ?_
    refine sxl_y (wn_none rfl) rfl rfl (yp rfl) ?_
    refine sxl_y (wn_none rfl) rfl rfl (y_sub rfl rfl rfl (by omega)) ?_
    refine sxl_y (wn_none rfl) rfl rfl (y_convInt rfl rfl Tryd.underlying3 Tryd.underlying35 hNm) ?_
    refine sxl_y (wn_none rfl) rfl rfl (y_remN rfl rfl rfl (by omega)) ?_
    refine sxl_y (wn_none rfl) rfl rfl (y_convInt rfl rfl Tryd.underlying35 Tryd.underlying3 hXb) ?_
    refine sxl_y (wn_none rfl) rfl rfl (y_add rfl rfl rfl (by omega)) ?_
    refine sxl_y (wn_none rfl) rfl rfl (yp rfl) ?_
    refine sxl_nil ?_
    refine qx_seq ?_
    refine sx_seq ?_
    refine sx_region ?_
    refine sxl_y (wn_none rfl) rfl rfl (yp rfl) ?_
    refine sxl_nil ?_
    refine qx_seq ?_
    refine sx_seq ?_
    refine sx_seq ?_
    refine sx_region ?_
    refine sxl_y (wn_none rfl) rfl rfl (yp rfl) ?_
    refine sxl_nil ?_
    refine qx_seq ?_
    refine sx_block ?_
    rw [← hn]
    refine sx_loop (fun e wr' m => ∃ (k : Nat) (tw : Bool), e = [(16, .int .i64 (k : Int)), (15, .bool tw), (14, .int .i64 n), (13, .int .i64 (i : Int)), (12, .slice A l.length c), (11, .pointer (some ⟨Q.gp, 0, none⟩)), (0, .int .i64 (N : Int)), (1, .slice (some ⟨b1, o1, none⟩) u.length c1), (2, .slice A2 dr.length c2), (3, .int .u8 (tk.toNat : Int))] ∧ wr = wr' ∧ k ≤ l.length ∧ (tw = true ↔ n ∈ l.take k) ∧ m = l.length - k)
      ⟨0, false, rfl, rfl, Nat.zero_le _, by simp, rfl⟩ ⟨rfl, rfl, rfl, rfl, rfl, rfl, rfl, rfl, rfl, rfl, trivial⟩ ?_
    rintro _ _ _ ⟨k, tw, rfl, rfl, hk, htw, rfl⟩
    by_cases hkl : k < l.length
    · obtain ⟨y, hy⟩ : ∃ y, l[k]? = some y := ⟨_, List.getElem?_eq_getElem hkl⟩
      obtain ⟨b2, o2, rfl, ce2⟩ := rd_int hrl hy
      have hts := take_snoc hy
      cases tw with
      | true =>
        refine sx_seq ?_
        refine sx_seq ?_
        refine sx_region ?_
        refine sxl_y (wn_none rfl) rfl rfl (yp rfl) ?_
        refine sxl_y (wn_none rfl) rfl rfl (yp rfl) ?_
        refine sxl_y (wn_none rfl) rfl rfl (y_len rfl rfl (sl rfl)) ?_
        refine sxl_y (wn_none rfl) rfl rfl (y_lss_t rfl rfl rfl (by omega)) ?_
        refine sxl_nil ?_
        refine qx_seq ?_
        refine sx_true rfl ?_
        refine sx_skip ?_
        refine qx_seq ?_
        refine sx_seq ?_
        refine sx_block ?_
        refine sx_region ?_
        refine sxl_y (wn_none rfl) rfl rfl (yp rfl) ?_
        refine sxl_y (wn_none rfl) rfl rfl (yp rfl) ?_
        refine sxl_off rfl rfl rfl rfl rfl rfl ?_
        refine sxl_off rfl rfl rfl rfl rfl rfl ?_
        refine sxl_off rfl rfl rfl rfl rfl rfl ?_
        refine sxl_off rfl rfl rfl rfl rfl rfl ?_
        refine sxl_off rfl rfl rfl rfl rfl rfl ?_
        refine sxl_off rfl rfl rfl rfl rfl rfl ?_
        refine sxl_y (wn_none rfl) rfl rfl (yp rfl) ?_
        refine sxl_y (wn_none rfl) rfl rfl (yp rfl) ?_
        refine sxl_nil ?_
        refine qx_block_normal ?_
        refine qx_seq ?_
        refine sx_region ?_
        refine sxl_y (wn_none rfl) rfl rfl (yp rfl) ?_
        refine sxl_y (wn_none rfl) rfl rfl (y_add rfl rfl rfl (by omega)) ?_
        refine sxl_y (wn_none rfl) rfl rfl (yp rfl) ?_
        refine sxl_nil ?_
        exact qx_again [(16, .int .i64 ((k + 1 : Nat) : Int)), (15, .bool true), (14, .int .i64 n), (13, .int .i64 (i : Int)), (12, .slice (some ⟨b2, o2, none⟩) l.length c), (11, .pointer (some ⟨Q.gp, 0, none⟩)), (0, .int .i64 (N : Int)), (1, .slice (some ⟨b1, o1, none⟩) u.length c1), (2, .slice A2 dr.length c2), (3, .int .u8 (tk.toNat : Int))] (l.length - (k + 1)) ⟨k + 1, true, rfl, rfl, hkl, by rw [hts]; simp [htw.1 rfl], rfl⟩ (by omega) ⟨rfl, rfl, rfl, rfl, rfl, rfl, rfl, rfl, rfl, rfl, trivial⟩
      | false =>
        have hnot : n ∉ l.take k := fun e => by have := htw.2 e; cases this
        by_cases hyn : y = n
        · refine sx_seq ?_
          refine sx_seq ?_
          refine sx_region ?_
          refine sxl_y (wn_none rfl) rfl rfl (yp rfl) ?_
          refine sxl_y (wn_none rfl) rfl rfl (yp rfl) ?_
          refine sxl_y (wn_none rfl) rfl rfl (y_len rfl rfl (sl rfl)) ?_
          refine sxl_y (wn_none rfl) rfl rfl (y_lss_t rfl rfl rfl (by omega)) ?_
          refine sxl_nil ?_
          refine qx_seq ?_
          refine sx_true rfl ?_
          refine sx_skip ?_
          refine qx_seq ?_
          refine sx_seq ?_
          refine sx_block ?_
          refine sx_region ?_
          refine sxl_y (wn_none rfl) rfl rfl (yp rfl) ?_
          refine sxl_y (wn_none rfl) rfl rfl (yp rfl) ?_
          refine sxl_y (wn_on rfl rfl rfl) rfl rfl (yp rfl) ?_
          refine sxl_y (wn_on rfl rfl rfl) rfl rfl (yp rfl) ?_
          refine sxl_y (wn_on rfl rfl rfl) rfl rfl (y_indexN rfl rfl rfl (sl rfl) (by omega)) ?_
          refine sxl_y (wn_on rfl rfl rfl) rfl rfl (y_load rfl rfl (sc rfl) (by assumption)) ?_
          refine sxl_y (wn_on rfl rfl rfl) rfl rfl (yp rfl) ?_
          refine sxl_y (wn_on rfl rfl rfl) rfl rfl (y_eql_t rfl rfl rfl (by omega)) ?_
          refine sxl_y (wn_none rfl) rfl rfl (yp rfl) ?_
          refine sxl_y (wn_none rfl) rfl rfl (yp rfl) ?_
          refine sxl_nil ?_
          refine qx_block_normal ?_
          refine qx_seq ?_
          refine sx_region ?_
          refine sxl_y (wn_none rfl) rfl rfl (yp rfl) ?_
          refine sxl_y (wn_none rfl) rfl rfl (y_add rfl rfl rfl (by omega)) ?_
          refine sxl_y (wn_none rfl) rfl rfl (yp rfl) ?_
          refine sxl_nil ?_
          exact qx_again [(16, .int .i64 ((k + 1 : Nat) : Int)), (15, .bool true), (14, .int .i64 n), (13, .int .i64 (i : Int)), (12, .slice (some ⟨b2, o2, none⟩) l.length c), (11, .pointer (some ⟨Q.gp, 0, none⟩)), (0, .int .i64 (N : Int)), (1, .slice (some ⟨b1, o1, none⟩) u.length c1), (2, .slice A2 dr.length c2), (3, .int .u8 (tk.toNat : Int))] (l.length - (k + 1)) ⟨k + 1, true, rfl, rfl, hkl, by rw [hts]; simp [hyn], rfl⟩ (by omega) ⟨rfl, rfl, rfl, rfl, rfl, rfl, rfl, rfl, rfl, rfl, trivial⟩
        · refine sx_seq ?_
          refine sx_seq ?_
          refine sx_region ?_
          refine sxl_y (wn_none rfl) rfl rfl (yp rfl) ?_
          refine sxl_y (wn_none rfl) rfl rfl (yp rfl) ?_
          refine sxl_y (wn_none rfl) rfl rfl (y_len rfl rfl (sl rfl)) ?_
          refine sxl_y (wn_none rfl) rfl rfl (y_lss_t rfl rfl rfl (by omega)) ?_
          refine sxl_nil ?_
          refine qx_seq ?_
          refine sx_true rfl ?_
          refine sx_skip ?_
          refine qx_seq ?_
          refine sx_seq ?_
          refine sx_block ?_
          refine sx_region ?_
          refine sxl_y (wn_none rfl) rfl rfl (yp rfl) ?_
          refine sxl_y (wn_none rfl) rfl rfl (yp rfl) ?_
          refine sxl_y (wn_on rfl rfl rfl) rfl rfl (yp rfl) ?_
          refine sxl_y (wn_on rfl rfl rfl) rfl rfl (yp rfl) ?_
          refine sxl_y (wn_on rfl rfl rfl) rfl rfl (y_indexN rfl rfl rfl (sl rfl) (by omega)) ?_
          refine sxl_y (wn_on rfl rfl rfl) rfl rfl (y_load rfl rfl (sc rfl) (by assumption)) ?_
          refine sxl_y (wn_on rfl rfl rfl) rfl rfl (yp rfl) ?_
          refine sxl_y (wn_on rfl rfl rfl) rfl rfl (y_eql_f rfl rfl rfl (by omega)) ?_
          refine sxl_y (wn_none rfl) rfl rfl (yp rfl) ?_
          refine sxl_y (wn_none rfl) rfl rfl (yp rfl) ?_
          refine sxl_nil ?_
          refine qx_block_normal ?_
          refine qx_seq ?_
          refine sx_region ?_
          refine sxl_y (wn_none rfl) rfl rfl (yp rfl) ?_
          refine sxl_y (wn_none rfl) rfl rfl (y_add rfl rfl rfl (by omega)) ?_
          refine sxl_y (wn_none rfl) rfl rfl (yp rfl) ?_
          refine sxl_nil ?_
          exact qx_again [(16, .int .i64 ((k + 1 : Nat) : Int)), (15, .bool false), (14, .int .i64 n), (13, .int .i64 (i : Int)), (12, .slice (some ⟨b2, o2, none⟩) l.length c), (11, .pointer (some ⟨Q.gp, 0, none⟩)), (0, .int .i64 (N : Int)), (1, .slice (some ⟨b1, o1, none⟩) u.length c1), (2, .slice A2 dr.length c2), (3, .int .u8 (tk.toNat : Int))] (l.length - (k + 1)) ⟨k + 1, false, rfl, rfl, hkl, by rw [hts]; simp [hnot, Ne.symm hyn], rfl⟩ (by omega) ⟨rfl, rfl, rfl, rfl, rfl, rfl, rfl, rfl, rfl, rfl, trivial⟩
    · have hke : k = l.length := by omega
      rw [hke, List.take_length] at htw
      cases tw with
      | true =>
        refine sx_seq ?_
        refine sx_seq ?_
        refine sx_region ?_
        refine sxl_y (wn_none rfl) rfl rfl (yp rfl) ?_
        refine sxl_y (wn_none rfl) rfl rfl (yp rfl) ?_
        refine sxl_y (wn_none rfl) rfl rfl (y_len rfl rfl (sl rfl)) ?_
        refine sxl_y (wn_none rfl) rfl rfl (y_lss_f rfl rfl rfl (by omega)) ?_
        refine sxl_nil ?_
        refine qx_seq ?_
        refine sx_false rfl ?_
        refine sx_exit ?_
        refine qx_then_exit ?_
        refine qx_then_exit ?_
        refine qx_block_hit ?_
        refine qx_seq ?_
        refine sx_seq ?_
        refine sx_region ?_
        refine sxl_y (wn_none rfl) rfl rfl (yp rfl) ?_
        refine sxl_y (wn_none rfl) rfl rfl (yp rfl) ?_
        refine sxl_nil ?_
        refine qx_seq ?_
        refine sx_false rfl ?_
        refine sx_skip ?_
        refine qx_block_normal ?_
        refine qx_seq ?_
        refine sx_region ?_
        refine sxl_y (wn_none rfl) rfl rfl (yp rfl) ?_
        refine sxl_y (wn_none rfl) rfl rfl (y_add rfl rfl rfl (by omega)) ?_
        refine sxl_y (wn_none rfl) rfl rfl (yp rfl) ?_
        refine sxl_nil ?_
        exact qx_again [(13, .int .i64 ((i + 1 : Nat) : Int)), (12, .slice A l.length c), (11, .pointer (some ⟨Q.gp, 0, none⟩)), (0, .int .i64 (N : Int)), (1, .slice (some ⟨b1, o1, none⟩) u.length c1), (2, .slice A2 dr.length c2), (3, .int .u8 (tk.toNat : Int))] (40 - (i + 1)) ⟨i + 1, l, A, c, rfl, by omega, by omega, by omega, hnd, hin, hown', hfr, rfl⟩ (by omega) ⟨rfl, rfl, rfl, rfl, rfl, rfl, rfl, trivial⟩
      | false =>
        have hnot : n ∉ l := fun e => by have := htw.2 e; cases this
        refine sx_seq ?_
        refine sx_seq ?_
        refine sx_region ?_
        refine sxl_y (wn_none rfl) rfl rfl (yp rfl) ?_
        refine sxl_y (wn_none rfl) rfl rfl (yp rfl) ?_
        refine sxl_y (wn_none rfl) rfl rfl (y_len rfl rfl (sl rfl)) ?_
        refine sxl_y (wn_none rfl) rfl rfl (y_lss_f rfl rfl rfl (by omega)) ?_
        refine sxl_nil ?_
        refine qx_seq ?_
        refine sx_false rfl ?_
        refine sx_exit ?_
        refine qx_then_exit ?_
        refine qx_then_exit ?_
        refine qx_block_hit ?_
        refine qx_seq ?_
        refine sx_seq ?_
        refine sx_region ?_
        refine sxl_y (wn_none rfl) rfl rfl (yp rfl) ?_
        refine sxl_y (wn_none rfl) rfl rfl (yp rfl) ?_
        refine sxl_nil ?_
        refine qx_seq ?_
        refine sx_true rfl ?_
        refine sx_region ?_
        refine sxl_y (wn_none rfl) rfl rfl (yp rfl) ?_
        refine sxl_y (wn_none rfl) rfl rfl (yp rfl) ?_
        refine sxl_does (some 90) (wn_none rfl) rfl rfl (fun ρ hρ => does_slice [.int .i64 n] (.int .i64 0) hρ rfl rfl rfl rfl Tryd.underlying55 int_info (by decide) (by decide) (by simp [Value.cells])) ?_
        rintro _ w4 ⟨gs, rfl, hs1, hs2, hbs, hf4⟩
        have hbs : Blk w4 gs 3 [.int .i64 n] := hbs
        have hz4 := hf4.size
        refine sxl_does (some 91) (wn_none rfl) rfl rfl (fun ρ hρ => does_append (.tmp 88) (.tmp 90) 55 rfl w3.heap.size 3 (.int .i64 0) 8 Tryd.underlying55 info_int rfl _ l.length (iv l) (hρ _ _ rfl) (own_fr hown' hf4 (fun _ _ hh => hh)) (some ⟨gs, 0, none⟩) 1 1 [.int .i64 n] (hρ _ _ rfl) (Rd.ofBlk hbs rfl) (by simp [Value.oneCell']) (by unfold maxLen; omega) (by omega) (by omega)) ?_
        rintro v5 w5 ⟨ho5, hg5, _⟩
        obtain ⟨A5, c5, rfl, _, _, _, _⟩ := own_form ho5
        have hl1 : (l ++ [n]).length = l.length + 1 := by rw [List.length_append]; rfl
        have ho5 : w5.ownsRow w3.heap.size 3 1 (.slice A5 (l ++ [n]).length c5) (l ++ [n]).length (iv (l ++ [n])) := by
          rw [hl1, show iv (l ++ [n]) = iv l ++ [.int .i64 n] from List.map_append]
          exact ho5
        have hf5 : Fr0 w3 w5 := (hfr.trans hf4).step (Fr.refl.grown (S := fun b => w3.heap.size ≤ b) hg5 (fun k hk _ => (hown'.lt k hk).1)) (fun b hb e => by omega)
        refine sxl_y (wn_none rfl) rfl rfl (yp rfl) ?_
        refine sxl_nil ?_
        refine qx_block_normal ?_
        refine qx_seq ?_
        refine sx_region ?_
        refine sxl_y (wn_none rfl) rfl rfl (yp rfl) ?_
        refine sxl_y (wn_none rfl) rfl rfl (y_add rfl rfl rfl (by omega)) ?_
        refine sxl_y (wn_none rfl) rfl rfl (yp rfl) ?_
        refine sxl_nil ?_
        rw [← hl1]
        exact qx_again [(13, .int .i64 ((i + 1 : Nat) : Int)), (12, .slice A5 (l ++ [n]).length c5), (11, .pointer (some ⟨Q.gp, 0, none⟩)), (0, .int .i64 (N : Int)), (1, .slice (some ⟨b1, o1, none⟩) u.length c1), (2, .slice A2 dr.length c2), (3, .int .u8 (tk.toNat : Int))] (40 - (i + 1)) ⟨i + 1, l ++ [n], A5, c5, rfl, by omega, by omega, by omega, (nodup_snoc l n).2 ⟨hnd, hnot⟩, (fun k hk => by
          rcases List.mem_append.1 hk with hk | hk
          · exact hin k hk
          · obtain rfl : k = n := by simpa using hk
            omega), ho5, hf5, rfl⟩ (by omega) ⟨rfl, rfl, rfl, rfl, rfl, rfl, rfl, trivial⟩
  refine sx_fork 0 [(12, .slice A l.length c), (11, .pointer (some ⟨Q.gp, 0, none⟩)), (0, .int .i64 (N : Int)), (2, .slice A2 dr.length c2), (3, .int .u8 (tk.toNat : Int))] ?_ ?_
  rotate_left
  · intro main
    by_cases hlt : i < u.length
    · refine sx_seq ?_
      refine sx_seq ?_
      refine sx_region ?_
      refine sxl_y (wn_none rfl) rfl rfl (yp rfl) ?_
      refine sxl_y (wn_none rfl) rfl rfl (yp rfl) ?_
      refine sxl_y (wn_none rfl) rfl rfl (y_len rfl rfl (sl rfl)) ?_
      refine sxl_y (wn_none rfl) rfl rfl (y_lss_t rfl rfl rfl (by omega)) ?_
      refine sxl_y (wn_none rfl) rfl rfl (yp rfl) ?_
      refine sxl_y (wn_on rfl rfl rfl) rfl rfl (yp rfl) ?_
      refine sxl_y (wn_on rfl rfl rfl) rfl rfl (y_lss_f rfl rfl rfl (by omega)) ?_
      refine sxl_y (wn_none rfl) rfl rfl (yp rfl) ?_
      refine sxl_nil ?_
      refine qx_seq ?_
      refine sx_false rfl ?_
      refine sx_exit ?_
      refine qx_then_exit ?_
      refine qx_then_exit ?_
      exact main _ ⟨rfl, rfl, rfl, rfl, rfl, trivial⟩
    · refine sx_seq ?_
      refine sx_seq ?_
      refine sx_region ?_
      refine sxl_y (wn_none rfl) rfl rfl (yp rfl) ?_
      refine sxl_y (wn_none rfl) rfl rfl (yp rfl) ?_
      refine sxl_y (wn_none rfl) rfl rfl (y_len rfl rfl (sl rfl)) ?_
      refine sxl_y (wn_none rfl) rfl rfl (y_lss_f rfl rfl rfl (by omega)) ?_
      refine sxl_y (wn_none rfl) rfl rfl (yp rfl) ?_
      refine sxl_off rfl rfl rfl rfl rfl rfl ?_
      refine sxl_off rfl rfl rfl rfl rfl rfl ?_
      refine sxl_y (wn_none rfl) rfl rfl (yp rfl) ?_
      refine sxl_nil ?_
      refine qx_seq ?_
      refine sx_false rfl ?_
      refine sx_exit ?_
      refine qx_then_exit ?_
      refine qx_then_exit ?_
      exact main _ ⟨rfl, rfl, rfl, rfl, rfl, trivial⟩
  clear hgo hi40 hiu
  have hsr := hsd.fr0 hfr
  have hls : Lst wr Q A l := ⟨hrl, fun b off e => by
    subst e
    have hb := hown.lt b rfl
    exact ⟨fun hq => by have := hsd.pg.lt hq; omega, hb.2⟩⟩
  have hr2r := hr2.fr0 hsr.fr
  clear hsd hown hown' hnb hrl hfr hr1
  have hN9 : (N : Int) ≤ 32 := by omega
  have hlN : l.length ≤ N - 2 := by have := freeUpto_used N l hnd hin; omega
  obtain ⟨F, hF⟩ : ∃ F : Nat, F + l.length = N - 2 := ⟨N - 2 - l.length, by omega⟩
  have hFu : freeUpto (usedOf l) N = F := by have := freeUpto_used N l hnd hin; omega
  have hg : ∀ sq rt (st : Int → Int), PS.gone ⟨N, sq, rt, st, false⟩ s = false := fun sq rt st => by unfold PS.gone; rw [fd]; rfl
  refine qx_block_hit ?_
  refine qx_seq ?_
  refine sx_seq ?_
  refine sx_seq ?_
  refine sx_region ?_
  refine sxl_y (wn_none rfl) rfl rfl (yp rfl) ?_
  refine sxl_y (wn_none rfl) rfl rfl (yp rfl) ?_
  refine sxl_call (some 94) (by first | exact wn_none rfl | exact wn_on rfl rfl rfl) rfl rfl (yc_call rfl rfl Tryd.call21) (use_new hsr.pg A l c hls.rd (by omega) (fun b off e e' => (hls.nb b off e).1 (.inl e')) (hg _ _ _) (fun _ => show (0 : Int) ≤ 1 by decide) hnd hin) ?_
  rintro _ w6 ⟨Q6, rfl, hto6⟩
  refine ⟨_, rfl, ?_⟩
  have h6 := hsr.to hto6
  have hl6 := hls.to hto6
  have hgp6 : Q6.gp = Q.gp := hto6.gp
  have h6 : Sd w w6 Q6 ⟨N, 1, 0, usedOf l, false⟩ s := h6
  rw [← hgp6]
  refine sxl_y (wn_none rfl) rfl rfl (y_neq_f rfl rfl rfl (by omega)) ?_
  refine sxl_y (wn_none rfl) rfl rfl (yp rfl) ?_
  refine sxl_y (wn_on rfl rfl rfl) rfl rfl (yp rfl) ?_
  refine sxl_pure (wn_on rfl rfl rfl) rfl rfl (yc_call rfl rfl Tryd.call22) (free_at h6.pg (by show N ≤ _; omega) hFu) ?_
  refine sxl_y (wn_on rfl rfl rfl) rfl rfl (yp rfl) ?_
  refine sxl_y (wn_on rfl rfl rfl) rfl rfl (y_sub rfl rfl rfl (by omega)) ?_
  refine sxl_y (wn_on rfl rfl rfl) rfl rfl (yp rfl) ?_
  refine sxl_y (wn_on rfl rfl rfl) rfl rfl (y_len rfl rfl (sl rfl)) ?_
  refine sxl_y (wn_on rfl rfl rfl) rfl rfl (y_sub rfl rfl rfl (by omega)) ?_
  refine sxl_y (wn_on rfl rfl rfl) rfl rfl (y_neq_f rfl rfl rfl (by omega)) ?_
  refine sxl_y (wn_none rfl) rfl rfl (yp rfl) ?_
  refine sxl_nil ?_
  refine qx_seq ?_
  refine sx_false rfl ?_
  refine sx_skip ?_
  refine qx_seq ?_
  refine sx_seq ?_
  refine sx_region ?_
  refine sxl_y (wn_none rfl) rfl rfl (yp rfl) ?_
  refine sxl_nil ?_
  refine qx_seq ?_
  refine sx_seq ?_
  refine sx_seq ?_
  refine sx_region ?_
  refine sxl_y (wn_none rfl) rfl rfl (yp rfl) ?_
  refine sxl_nil ?_
  refine qx_seq ?_
  refine sx_block ?_
  refine sx_loop (fun e wr m => ∃ (i : Nat) (st : Int → Int), e = [(18, .int .i64 (i : Int)), (17, .int .i64 (cnt4 st l : Int)), (12, .slice A l.length c), (11, .pointer (some ⟨Q6.gp, 0, none⟩)), (0, .int .i64 (N : Int)), (2, .slice A2 dr.length c2), (3, .int .u8 (tk.toNat : Int))] ∧ i ≤ 20 ∧ i ≤ dr.length ∧ Sd w wr Q6 ⟨N, 1, 0, st, false⟩ s ∧ Lst wr Q6 A l ∧ Tkn l st 1 ∧ m = 20 - i)
    ⟨0, _, rfl, Nat.zero_le _, Nat.zero_le _, h6, hl6, ⟨fun k hk => by unfold usedOf; rw [if_pos hk]; exact .inl rfl, fun k hk => by unfold usedOf; rw [if_neg hk]; exact .inl rfl, fun i h1 h2 => by omega⟩, rfl⟩ ⟨rfl, by rw [cnt4_used]; rfl, rfl, rfl, rfl, rfl, rfl, trivial⟩ ?_
  rintro _ wr2 _ ⟨i, st, rfl, hi20, hidr, h7, hl7, htk7, rfl⟩
  have hc4 := cnt4_le st l
  by_cases hgo : i < dr.length ∧ i < 20 ∧ 0 < l.length
  · obtain ⟨hlt, h20, hl0⟩ := hgo
    obtain ⟨c0, hc0⟩ : ∃ c0, dr[i]? = some c0 := ⟨_, List.getElem?_eq_getElem hlt⟩
    obtain ⟨b2, o2, rfl, ce2⟩ := rd_u8 (hr2.fr0 h7.fr) hc0
    have hcl := c0.toNat_lt
    have hmod : c0.toNat % l.length < l.length := Nat.mod_lt _ hl0
    obtain ⟨n, hn⟩ : ∃ n, l[c0.toNat % l.length]? = some n := ⟨_, List.getElem?_eq_getElem hmod⟩
    obtain ⟨b1, o1, rfl, ce1⟩ := rd_int hl7.rd hn
    have hmem := List.mem_of_getElem? hn
    obtain ⟨hn1, hn2⟩ := hin n hmem
    have hcw : IntKind.i64.wrap (c0.toNat : Int) = (c0.toNat : Int) := by rw [IntKind.wrap_i64]; omega
    by_cases h4 : st n = 4
    · refine sx_seq ?_
      refine sx_seq ?_
      refine sx_region ?_
      refine sxl_y (wn_none rfl) rfl rfl (yp rfl) ?_
      refine sxl_y (wn_none rfl) rfl rfl (yp rfl) ?_
      refine sxl_y (wn_none rfl) rfl rfl (y_len rfl rfl (sl rfl)) ?_
      refine sxl_y (wn_none rfl) rfl rfl (y_lss_t rfl rfl rfl (by omega)) ?_
      refine sxl_y (wn_none rfl) rfl rfl (yp rfl) ?_
      refine sxl_y (wn_on rfl rfl rfl) rfl rfl (yp rfl) ?_
      refine sxl_y (wn_on rfl rfl rfl) rfl rfl (y_lss_t rfl rfl rfl (by omega)) ?_
      refine sxl_y (wn_none rfl) rfl rfl (yp rfl) ?_
      refine sxl_y (wn_none rfl) rfl rfl (yp rfl) ?_
      refine sxl_y (wn_on rfl rfl rfl) rfl rfl (yp rfl) ?_
      refine sxl_y (wn_on rfl rfl rfl) rfl rfl (y_len rfl rfl (sl rfl)) ?_
      refine sxl_y (wn_on rfl rfl rfl) rfl rfl (y_gtr_t rfl rfl rfl (by omega)) ?_
      refine sxl_y (wn_none rfl) rfl rfl (yp rfl) ?_
      refine sxl_nil ?_
      refine qx_seq ?_
      refine sx_true rfl ?_
      refine sx_skip ?_
      refine qx_seq ?_
      refine sx_seq ?_
      refine sx_block ?_
      refine sx_seq ?_
      refine sx_region ?_
      refine sxl_y (wn_none rfl) rfl rfl (yp rfl) ?_
      refine sxl_y (wn_none rfl) rfl rfl (yp rfl) ?_
      refine sxl_y (wn_none rfl) rfl rfl (yp rfl) ?_
      refine sxl_y (wn_none rfl) rfl rfl (yp rfl) ?_
      refine sxl_y (wn_none rfl) rfl rfl (y_indexN rfl rfl rfl (sl rfl) (by omega)) ?_
      refine sxl_y (wn_none rfl) rfl rfl (y_load rfl rfl (sc rfl) (by assumption)) ?_
      refine sxl_y (wn_none rfl) rfl rfl (y_convInt rfl rfl Tryd.underlying5 Tryd.underlying3 hcw) ?_
      refine sxl_y (wn_none rfl) rfl rfl (yp rfl) ?_
      refine sxl_y (wn_none rfl) rfl rfl (y_len rfl rfl (sl rfl)) ?_
      refine sxl_y (wn_none rfl) rfl rfl (y_remN rfl rfl rfl hl0) ?_
      refine sxl_y (wn_none rfl) rfl rfl (y_indexN rfl rfl rfl (sl rfl) (by omega)) ?_
      refine sxl_y (wn_none rfl) rfl rfl (y_load rfl rfl (sc rfl) (by assumption)) ?_
      refine sxl_call (some 133) (by first | exact wn_none rfl | exact wn_on rfl rfl rfl) rfl rfl (yc_call rfl rfl Tryd.call11) (drop_4 h7.pg (hg _ _ _) hn1 hn2 h4) ?_
      rintro _ w8 ⟨rfl, hto8⟩
      refine ⟨_, rfl, ?_⟩
      refine sxl_y (wn_none rfl) rfl rfl (y_eql_f rfl rfl rfl (by omega)) ?_
      refine sxl_nil ?_
      refine qx_seq ?_
      refine sx_false rfl ?_
      refine sx_skip ?_
      refine qx_block_normal ?_
      refine qx_seq ?_
      refine sx_region ?_
      refine sxl_y (wn_none rfl) rfl rfl (yp rfl) ?_
      refine sxl_y (wn_none rfl) rfl rfl (y_add rfl rfl rfl (by omega)) ?_
      refine sxl_y (wn_none rfl) rfl rfl (yp rfl) ?_
      refine sxl_nil ?_
      exact qx_again [(18, .int .i64 ((i + 1 : Nat) : Int)), (17, .int .i64 (cnt4 st l : Int)), (12, .slice (some ⟨b1, o1, none⟩) l.length c), (11, .pointer (some ⟨Q6.gp, 0, none⟩)), (0, .int .i64 (N : Int)), (2, .slice (some ⟨b2, o2, none⟩) dr.length c2), (3, .int .u8 (tk.toNat : Int))] (20 - (i + 1)) ⟨i + 1, st, rfl, h20, hlt, h7.to hto8, hl7.to hto8, htk7, rfl⟩ (by omega) ⟨rfl, rfl, rfl, rfl, rfl, rfl, rfl, trivial⟩
    · have h1 : st n = 1 := (htk7.inn n hmem).resolve_right h4
      have hup := cnt4_upd hnd hmem h4
      refine sx_seq ?_
      refine sx_seq ?_
      refine sx_region ?_
      refine sxl_y (wn_none rfl) rfl rfl (yp rfl) ?_
      refine sxl_y (wn_none rfl) rfl rfl (yp rfl) ?_
      refine sxl_y (wn_none rfl) rfl rfl (y_len rfl rfl (sl rfl)) ?_
      refine sxl_y (wn_none rfl) rfl rfl (y_lss_t rfl rfl rfl (by omega)) ?_
      refine sxl_y (wn_none rfl) rfl rfl (yp rfl) ?_
      refine sxl_y (wn_on rfl rfl rfl) rfl rfl (yp rfl) ?_
      refine sxl_y (wn_on rfl rfl rfl) rfl rfl (y_lss_t rfl rfl rfl (by omega)) ?_
      refine sxl_y (wn_none rfl) rfl rfl (yp rfl) ?_
      refine sxl_y (wn_none rfl) rfl rfl (yp rfl) ?_
      refine sxl_y (wn_on rfl rfl rfl) rfl rfl (yp rfl) ?_
      refine sxl_y (wn_on rfl rfl rfl) rfl rfl (y_len rfl rfl (sl rfl)) ?_
      refine sxl_y (wn_on rfl rfl rfl) rfl rfl (y_gtr_t rfl rfl rfl (by omega)) ?_
      refine sxl_y (wn_none rfl) rfl rfl (yp rfl) ?_
      refine sxl_nil ?_
      refine qx_seq ?_
      refine sx_true rfl ?_
      refine sx_skip ?_
      refine qx_seq ?_
      refine sx_seq ?_
      refine sx_block ?_
      refine sx_seq ?_
      refine sx_region ?_
      refine sxl_y (wn_none rfl) rfl rfl (yp rfl) ?_
      refine sxl_y (wn_none rfl) rfl rfl (yp rfl) ?_
      refine sxl_y (wn_none rfl) rfl rfl (yp rfl) ?_
      refine sxl_y (wn_none rfl) rfl rfl (yp rfl) ?_
      refine sxl_y (wn_none rfl) rfl rfl (y_indexN rfl rfl rfl (sl rfl) (by omega)) ?_
      refine sxl_y (wn_none rfl) rfl rfl (y_load rfl rfl (sc rfl) (by assumption)) ?_
      refine sxl_y (wn_none rfl) rfl rfl (y_convInt rfl rfl Tryd.underlying5 Tryd.underlying3 hcw) ?_
      refine sxl_y (wn_none rfl) rfl rfl (yp rfl) ?_
      refine sxl_y (wn_none rfl) rfl rfl (y_len rfl rfl (sl rfl)) ?_
      refine sxl_y (wn_none rfl) rfl rfl (y_remN rfl rfl rfl hl0) ?_
      refine sxl_y (wn_none rfl) rfl rfl (y_indexN rfl rfl rfl (sl rfl) (by omega)) ?_
      refine sxl_y (wn_none rfl) rfl rfl (y_load rfl rfl (sc rfl) (by assumption)) ?_
      refine sxl_call (some 133) (by first | exact wn_none rfl | exact wn_on rfl rfl rfl) rfl rfl (yc_call rfl rfl Tryd.call11) (drop_1 h7.pg (hg _ _ _) hn1 hn2 h1) ?_
      rintro _ w8 ⟨rfl, hto8⟩
      refine ⟨_, rfl, ?_⟩
      refine sxl_y (wn_none rfl) rfl rfl (y_eql_t rfl rfl rfl (by omega)) ?_
      refine sxl_nil ?_
      refine qx_seq ?_
      refine sx_true rfl ?_
      refine sx_region ?_
      refine sxl_y (wn_none rfl) rfl rfl (yp rfl) ?_
      refine sxl_y (wn_none rfl) rfl rfl (y_add rfl rfl rfl (by omega)) ?_
      refine sxl_y (wn_none rfl) rfl rfl (yp rfl) ?_
      refine sxl_nil ?_
      refine qx_block_normal ?_
      refine qx_seq ?_
      refine sx_region ?_
      refine sxl_y (wn_none rfl) rfl rfl (yp rfl) ?_
      refine sxl_y (wn_none rfl) rfl rfl (y_add rfl rfl rfl (by omega)) ?_
      refine sxl_y (wn_none rfl) rfl rfl (yp rfl) ?_
      refine sxl_nil ?_
      exact qx_again [(18, .int .i64 ((i + 1 : Nat) : Int)), (17, .int .i64 (cnt4 (updS st n 4) l : Int)), (12, .slice (some ⟨b1, o1, none⟩) l.length c), (11, .pointer (some ⟨Q6.gp, 0, none⟩)), (0, .int .i64 (N : Int)), (2, .slice (some ⟨b2, o2, none⟩) dr.length c2), (3, .int .u8 (tk.toNat : Int))] (20 - (i + 1)) ⟨i + 1, _, rfl, h20, hlt, h7.to hto8, hl7.to hto8, ⟨fun k hk => by
        unfold updS
        by_cases e : k = n
        · rw [if_pos e]; exact .inr rfl
        · rw [if_neg e]; exact htk7.inn k hk, fun k hk => by
        unfold updS
        rw [if_neg (fun (e : k = n) => hk (e ▸ hmem))]; exact htk7.out k hk, fun i h1 h2 => by omega⟩, rfl⟩ (by omega) ⟨rfl, by rw [hup]; rfl, rfl, rfl, rfl, rfl, rfl, trivial⟩
  refine sx_fork 4 [(17, .int .i64 (cnt4 st l : Int)), (12, .slice A l.length c), (11, .pointer (some ⟨Q6.gp, 0, none⟩)), (0, .int .i64 (N : Int)), (3, .int .u8 (tk.toNat : Int))] ?_ ?_
  rotate_left
  · intro main
    by_cases hlt : i < dr.length
    · by_cases h20 : i < 20
      · have hl0 : ¬ 0 < l.length := fun e => hgo ⟨hlt, h20, e⟩
        refine sx_seq ?_
        refine sx_seq ?_
        refine sx_region ?_
        refine sxl_y (wn_none rfl) rfl rfl (yp rfl) ?_
        refine sxl_y (wn_none rfl) rfl rfl (yp rfl) ?_
        refine sxl_y (wn_none rfl) rfl rfl (y_len rfl rfl (sl rfl)) ?_
        refine sxl_y (wn_none rfl) rfl rfl (y_lss_t rfl rfl rfl (by omega)) ?_
        refine sxl_y (wn_none rfl) rfl rfl (yp rfl) ?_
        refine sxl_y (wn_on rfl rfl rfl) rfl rfl (yp rfl) ?_
        refine sxl_y (wn_on rfl rfl rfl) rfl rfl (y_lss_t rfl rfl rfl (by omega)) ?_
        refine sxl_y (wn_none rfl) rfl rfl (yp rfl) ?_
        refine sxl_y (wn_none rfl) rfl rfl (yp rfl) ?_
        refine sxl_y (wn_on rfl rfl rfl) rfl rfl (yp rfl) ?_
        refine sxl_y (wn_on rfl rfl rfl) rfl rfl (y_len rfl rfl (sl rfl)) ?_
        refine sxl_y (wn_on rfl rfl rfl) rfl rfl (y_gtr_f rfl rfl rfl (by omega)) ?_
        refine sxl_y (wn_none rfl) rfl rfl (yp rfl) ?_
        refine sxl_nil ?_
        refine qx_seq ?_
        refine sx_false rfl ?_
        refine sx_exit ?_
        refine qx_then_exit ?_
        refine qx_then_exit ?_
        exact main _ ⟨rfl, rfl, rfl, rfl, rfl, trivial⟩
      · refine sx_seq ?_
        refine sx_seq ?_
        refine sx_region ?_
        refine sxl_y (wn_none rfl) rfl rfl (yp rfl) ?_
        refine sxl_y (wn_none rfl) rfl rfl (yp rfl) ?_
        refine sxl_y (wn_none rfl) rfl rfl (y_len rfl rfl (sl rfl)) ?_
        refine sxl_y (wn_none rfl) rfl rfl (y_lss_t rfl rfl rfl (by omega)) ?_
        refine sxl_y (wn_none rfl) rfl rfl (yp rfl) ?_
        refine sxl_y (wn_on rfl rfl rfl) rfl rfl (yp rfl) ?_
        refine sxl_y (wn_on rfl rfl rfl) rfl rfl (y_lss_f rfl rfl rfl (by omega)) ?_
        refine sxl_y (wn_none rfl) rfl rfl (yp rfl) ?_
        refine sxl_y (wn_none rfl) rfl rfl (yp rfl) ?_
        refine sxl_off rfl rfl rfl rfl rfl rfl ?_
        refine sxl_off rfl rfl rfl rfl rfl rfl ?_
        refine sxl_off rfl rfl rfl rfl rfl rfl ?_
        refine sxl_y (wn_none rfl) rfl rfl (yp rfl) ?_
        refine sxl_nil ?_
        refine qx_seq ?_
        refine sx_false rfl ?_
        refine sx_exit ?_
        refine qx_then_exit ?_
        refine qx_then_exit ?_
        exact main _ ⟨rfl, rfl, rfl, rfl, rfl, trivial⟩
    · refine sx_seq ?_
      refine sx_seq ?_
      refine sx_region ?_
      refine sxl_y (wn_none rfl) rfl rfl (yp rfl) ?_
      refine sxl_y (wn_none rfl) rfl rfl (yp rfl) ?_
      refine sxl_y (wn_none rfl) rfl rfl (y_len rfl rfl (sl rfl)) ?_
      refine sxl_y (wn_none rfl) rfl rfl (y_lss_f rfl rfl rfl (by omega)) ?_
      refine sxl_y (wn_none rfl) rfl rfl (yp rfl) ?_
      refine sxl_off rfl rfl rfl rfl rfl rfl ?_
      refine sxl_off rfl rfl rfl rfl rfl rfl ?_
      refine sxl_y (wn_none rfl) rfl rfl (yp rfl) ?_
      refine sxl_y (wn_none rfl) rfl rfl (yp rfl) ?_
      refine sxl_off rfl rfl rfl rfl rfl rfl ?_
      refine sxl_off rfl rfl rfl rfl rfl rfl ?_
      refine sxl_off rfl rfl rfl rfl rfl rfl ?_
      refine sxl_y (wn_none rfl) rfl rfl (yp rfl) ?_
      refine sxl_nil ?_
      refine qx_seq ?_
      refine sx_false rfl ?_
      refine sx_exit ?_
      refine qx_then_exit ?_
      refine qx_then_exit ?_
      exact main _ ⟨rfl, rfl, rfl, rfl, rfl, trivial⟩
  clear hgo hi20 hidr
  generalize hd0 : cnt4 st l = d at hc4
  obtain ⟨T, hT⟩ : ∃ T, T = tk.toNat % 40 := ⟨_, rfl⟩
  have hT40 : T < 40 := by omega
  have hTw : IntKind.i64.wrap (T : Int) = (T : Int) := by rw [IntKind.wrap_i64]; omega
  have e40 : ((40 : Nat) : Int) = 40 := rfl
  refine qx_block_hit ?_
  refine qx_seq ?_
  refine sx_seq ?_
  refine sx_region ?_
  refine sxl_y (wn_none rfl) rfl rfl (yp rfl) ?_
  refine sxl_nil ?_
  refine qx_seq ?_
  refine sx_seq ?_
  refine sx_seq ?_
  refine sx_region ?_
  refine sxl_y (wn_none rfl) rfl rfl (yp rfl) ?_
  refine sxl_nil ?_
  refine qx_seq ?_
  refine sx_block ?_
  refine sx_loop (fun e wr m => ∃ (k last : Nat) (st : Int → Int), e = [(20, .int .i64 (k : Int)), (19, .int .i64 (last : Int)), (17, .int .i64 (d : Int)), (12, .slice A l.length c), (11, .pointer (some ⟨Q6.gp, 0, none⟩)), (0, .int .i64 (N : Int)), (3, .int .u8 (tk.toNat : Int))] ∧ k ≤ T ∧ 1 ≤ last ∧ last < N ∧ Sd w wr Q6 ⟨N, 1, 0, st, false⟩ s ∧ Lst wr Q6 A l ∧ Tkn l st last ∧ m = T - k)
    ⟨0, 1, st, rfl, Nat.zero_le _, Nat.le_refl _, by omega, h7, hl7, htk7, rfl⟩ ⟨rfl, rfl, rfl, rfl, rfl, rfl, rfl, trivial⟩ ?_
  clear h7 hl7 htk7 hd0
  rintro _ wr3 _ ⟨k, last, st, rfl, hkT, hla1, hlaN, h7, hl7, htk7, rfl⟩
  refine sx_fork 6 [(17, .int .i64 (d : Int)), (12, .slice A l.length c), (11, .pointer (some ⟨Q6.gp, 0, none⟩)), (0, .int .i64 (N : Int))] ?_ ?_
  rotate_left
  · intro main
    by_cases hk : k < T
    case neg =>
      refine sx_seq ?_
      refine sx_seq ?_
      refine sx_region ?_
      refine sxl_y (wn_none rfl) rfl rfl (yp rfl) ?_
      refine sxl_y (wn_none rfl) rfl rfl (yp rfl) ?_
      refine sxl_y (wn_none rfl) rfl rfl (y_remN (b := 40) rfl rfl rfl (by decide)) ?_
      rw [← hT]
      refine sxl_y (wn_none rfl) rfl rfl (y_convInt rfl rfl Tryd.underlying5 Tryd.underlying3 hTw) ?_
      refine sxl_y (wn_none rfl) rfl rfl (y_lss_f rfl rfl rfl (by omega)) ?_
      refine sxl_nil ?_
      refine qx_seq ?_
      refine sx_false rfl ?_
      refine sx_exit ?_
      refine qx_then_exit ?_
      refine qx_then_exit ?_
      exact main _ ⟨rfl, rfl, rfl, rfl, trivial⟩
    cases hnx : PS.next ⟨N, 1, 0, st, false⟩ with
    | none =>
      have hf0 : freeUpto st N = 0 := freeUpto_none N (fun j h1 h2 => firstFree_none st _ _ hnx j h1 (by show j < 2 + (N - 2); omega))
      refine sx_seq ?_
      refine sx_seq ?_
      refine sx_region ?_
      refine sxl_y (wn_none rfl) rfl rfl (yp rfl) ?_
      refine sxl_y (wn_none rfl) rfl rfl (yp rfl) ?_
      refine sxl_y (wn_none rfl) rfl rfl (y_remN (b := 40) rfl rfl rfl (by decide)) ?_
      rw [← hT]
      refine sxl_y (wn_none rfl) rfl rfl (y_convInt rfl rfl Tryd.underlying5 Tryd.underlying3 hTw) ?_
      refine sxl_y (wn_none rfl) rfl rfl (y_lss_t rfl rfl rfl (by omega)) ?_
      refine sxl_nil ?_
      refine qx_seq ?_
      refine sx_true rfl ?_
      refine sx_skip ?_
      refine qx_seq ?_
      refine sx_seq ?_
      refine sx_block ?_
      refine sx_seq ?_
      refine sx_region ?_
      refine sxl_y (wn_none rfl) rfl rfl (yp rfl) ?_
      refine sxl_pure (wn_none rfl) rfl rfl (yc_call rfl rfl Tryd.call22) (free_at h7.pg (by show N ≤ _; omega) hf0) ?_
      refine sxl_y (wn_none rfl) rfl rfl (yp rfl) ?_
      refine sxl_nil ?_
      refine qx_seq ?_
      refine sx_seq ?_
      refine sx_region ?_
      refine sxl_y (wn_none rfl) rfl rfl (yp rfl) ?_
      refine sxl_pure (wn_none rfl) rfl rfl (yc_call rfl rfl Tryd.call12) (alloc_none h7.pg (hg _ _ _) (by show N ≤ _; omega) hnx) ?_
      refine sxl_y (wn_none rfl) rfl rfl (yp rfl) ?_
      refine sxl_y (wn_none rfl) rfl rfl (yp rfl) ?_
      refine sxl_y (wn_none rfl) rfl rfl (yp rfl) ?_
      refine sxl_y (wn_none rfl) rfl rfl (yp rfl) ?_
      refine sxl_y (wn_none rfl) rfl rfl (yp rfl) ?_
      refine sxl_nil ?_
      refine qx_seq ?_
      refine sx_seq ?_
      refine sx_seq ?_
      refine sx_region ?_
      refine sxl_y (wn_none rfl) rfl rfl (yp rfl) ?_
      refine sxl_y (wn_none rfl) rfl rfl (y_eql_f rfl rfl rfl (by omega)) ?_
      refine sxl_y (wn_none rfl) rfl rfl (yp rfl) ?_
      refine sxl_y (wn_none rfl) rfl rfl (y_gtr_f rfl rfl rfl (by omega)) ?_
      refine sxl_y (wn_none rfl) rfl rfl (y_neqBool rfl rfl rfl Tryd.underlying4) ?_
      refine sxl_y (wn_none rfl) rfl rfl (yp rfl) ?_
      refine sxl_y (wn_on rfl rfl rfl) rfl rfl (yp rfl) ?_
      refine sxl_y (wn_on rfl rfl rfl) rfl rfl (y_neq_t rfl rfl rfl (by omega)) ?_
      refine sxl_y (wn_on rfl rfl rfl) rfl rfl (yp rfl) ?_
      refine sxl_y (wn_on rfl rfl rfl) rfl rfl (yp rfl) ?_
      refine sxl_y (wn_on rfl rfl rfl) rfl rfl (y_neq_f rfl rfl rfl (by omega)) ?_
      refine sxl_y (wn_on rfl rfl rfl) rfl rfl (yp rfl) ?_
      refine sxl_y (wn_none rfl) rfl rfl (yp rfl) ?_
      refine sxl_nil ?_
      refine qx_seq ?_
      refine sx_false rfl ?_
      refine sx_skip ?_
      refine qx_seq ?_
      refine sx_seq ?_
      refine sx_seq ?_
      refine sx_region ?_
      refine sxl_y (wn_none rfl) rfl rfl (yp rfl) ?_
      refine sxl_y (wn_none rfl) rfl rfl (y_neq_t rfl rfl rfl (by omega)) ?_
      refine sxl_nil ?_
      refine qx_seq ?_
      refine sx_true rfl ?_
      refine sx_exit ?_
      refine qx_then_exit ?_
      refine qx_block_miss rfl ?_
      refine qx_then_exit ?_
      refine qx_then_exit ?_
      exact main _ ⟨rfl, rfl, rfl, rfl, trivial⟩
    | some j =>
      obtain ⟨j2, jN, hz, hb⟩ := firstFree_some st _ _ hnx
      have jN : j < 2 + (N - 2) := jN
      have hfu := freeUpto_upd (v := 2) j2 hz (by decide) N (by omega)
      obtain ⟨F', hF'⟩ : ∃ F', freeUpto (updS st j 2) N = F' := ⟨_, rfl⟩
      rw [hF'] at hfu
      obtain ⟨hjl, htk8⟩ := htk7.take hz hb
      have hFle := freeUpto_le (updS st j 2) N
      rw [hF'] at hFle
      have hlj : last < j := by
        rcases Nat.lt_or_ge last j with h | h
        · exact h
        · exact absurd hz (htk7.upto j j2 h)
      refine sx_seq ?_
      refine sx_seq ?_
      refine sx_region ?_
      refine sxl_y (wn_none rfl) rfl rfl (yp rfl) ?_
      refine sxl_y (wn_none rfl) rfl rfl (yp rfl) ?_
      refine sxl_y (wn_none rfl) rfl rfl (y_remN (b := 40) rfl rfl rfl (by decide)) ?_
      rw [← hT]
      refine sxl_y (wn_none rfl) rfl rfl (y_convInt rfl rfl Tryd.underlying5 Tryd.underlying3 hTw) ?_
      refine sxl_y (wn_none rfl) rfl rfl (y_lss_t rfl rfl rfl (by omega)) ?_
      refine sxl_nil ?_
      refine qx_seq ?_
      refine sx_true rfl ?_
      refine sx_skip ?_
      refine qx_seq ?_
      refine sx_seq ?_
      refine sx_block ?_
      refine sx_seq ?_
      refine sx_region ?_
      refine sxl_y (wn_none rfl) rfl rfl (yp rfl) ?_
      refine sxl_pure (wn_none rfl) rfl rfl (yc_call rfl rfl Tryd.call22) (free_at h7.pg (by show N ≤ _; omega) hfu.symm) ?_
      refine sxl_y (wn_none rfl) rfl rfl (yp rfl) ?_
      refine sxl_nil ?_
      refine qx_seq ?_
      refine sx_seq ?_
      refine sx_region ?_
      refine sxl_y (wn_none rfl) rfl rfl (yp rfl) ?_
      refine sxl_call (some 148) (by first | exact wn_none rfl | exact wn_on rfl rfl rfl) rfl rfl (yc_call rfl rfl Tryd.call12) (alloc_some h7.pg (hg _ _ _) (by show N ≤ _; omega) hnx) ?_
      rintro _ w8 ⟨rfl, hto8⟩
      refine ⟨_, rfl, ?_⟩
      have h8 := h7.to hto8
      have hl8 := hl7.to hto8
      have h8 : Sd w w8 Q6 ⟨N, 1, 0, updS st j 2, false⟩ s := h8
      refine sxl_y (wn_none rfl) rfl rfl (yp rfl) ?_
      refine sxl_y (wn_none rfl) rfl rfl (yp rfl) ?_
      refine sxl_y (wn_none rfl) rfl rfl (yp rfl) ?_
      refine sxl_y (wn_none rfl) rfl rfl (yp rfl) ?_
      refine sxl_y (wn_none rfl) rfl rfl (yp rfl) ?_
      refine sxl_nil ?_
      refine qx_seq ?_
      refine sx_seq ?_
      refine sx_seq ?_
      refine sx_region ?_
      refine sxl_y (wn_none rfl) rfl rfl (yp rfl) ?_
      refine sxl_y (wn_none rfl) rfl rfl (y_eql_t rfl rfl rfl (by omega)) ?_
      refine sxl_y (wn_none rfl) rfl rfl (yp rfl) ?_
      refine sxl_y (wn_none rfl) rfl rfl (y_gtr_t rfl rfl rfl (by omega)) ?_
      refine sxl_y (wn_none rfl) rfl rfl (y_neqBool rfl rfl rfl Tryd.underlying4) ?_
      refine sxl_y (wn_none rfl) rfl rfl (yp rfl) ?_
      refine sxl_y (wn_on rfl rfl rfl) rfl rfl (yp rfl) ?_
      refine sxl_y (wn_on rfl rfl rfl) rfl rfl (y_neq_f rfl rfl rfl (by omega)) ?_
      refine sxl_y (wn_on rfl rfl rfl) rfl rfl (yp rfl) ?_
      refine sxl_off rfl rfl rfl rfl rfl rfl ?_
      refine sxl_off rfl rfl rfl rfl rfl rfl ?_
      refine sxl_y (wn_on rfl rfl rfl) rfl rfl (yp rfl) ?_
      refine sxl_y (wn_none rfl) rfl rfl (yp rfl) ?_
      refine sxl_nil ?_
      refine qx_seq ?_
      refine sx_false rfl ?_
      refine sx_skip ?_
      refine qx_seq ?_
      refine sx_seq ?_
      refine sx_seq ?_
      refine sx_region ?_
      refine sxl_y (wn_none rfl) rfl rfl (yp rfl) ?_
      refine sxl_y (wn_none rfl) rfl rfl (y_neq_f rfl rfl rfl (by omega)) ?_
      refine sxl_nil ?_
      refine qx_seq ?_
      refine sx_false rfl ?_
      refine sx_skip ?_
      refine qx_seq ?_
      refine sx_seq ?_
      refine sx_seq ?_
      refine sx_region ?_
      refine sxl_y (wn_none rfl) rfl rfl (yp rfl) ?_
      refine sxl_y (wn_none rfl) rfl rfl (yp rfl) ?_
      refine sxl_y (wn_none rfl) rfl rfl (y_leq_f rfl rfl rfl (by omega)) ?_
      refine sxl_y (wn_none rfl) rfl rfl (yp rfl) ?_
      refine sxl_y (wn_on rfl rfl rfl) rfl rfl (yp rfl) ?_
      refine sxl_y (wn_on rfl rfl rfl) rfl rfl (yp rfl) ?_
      refine sxl_y (wn_on rfl rfl rfl) rfl rfl (y_geq_f rfl rfl rfl (by omega)) ?_
      refine sxl_y (wn_none rfl) rfl rfl (yp rfl) ?_
      refine sxl_y (wn_none rfl) rfl rfl (yp rfl) ?_
      refine sxl_y (wn_on rfl rfl rfl) rfl rfl (yp rfl) ?_
      refine sxl_pure (wn_on rfl rfl rfl) rfl rfl (yc_call rfl rfl Tryd.call22) (free_at h8.pg (by show N ≤ _; omega) hF') ?_
      refine sxl_y (wn_on rfl rfl rfl) rfl rfl (yp rfl) ?_
      refine sxl_y (wn_on rfl rfl rfl) rfl rfl (y_sub rfl rfl rfl (by omega)) ?_
      refine sxl_y (wn_on rfl rfl rfl) rfl rfl (y_neq_f rfl rfl rfl (by omega)) ?_
      refine sxl_y (wn_none rfl) rfl rfl (yp rfl) ?_
      refine sxl_nil ?_
      refine qx_seq ?_
      refine sx_false rfl ?_
      refine sx_skip ?_
      refine qx_seq ?_
      refine sx_seq ?_
      refine sx_seq ?_
      refine sx_region ?_
      refine sxl_y (wn_none rfl) rfl rfl (yp rfl) ?_
      refine sxl_nil ?_
      refine qx_seq ?_
      refine sx_block ?_
      refine sx_loop (fun e wr m => ∃ (i : Nat), e = [(24, .int .i64 (i : Int)), (22, .int .i64 (j : Int)), (20, .int .i64 (k : Int)), (17, .int .i64 (d : Int)), (12, .slice A l.length c), (11, .pointer (some ⟨Q6.gp, 0, none⟩)), (0, .int .i64 (N : Int)), (3, .int .u8 (tk.toNat : Int))] ∧ w8 = wr ∧ i ≤ l.length ∧ m = l.length - i)
        ⟨0, rfl, rfl, Nat.zero_le _, rfl⟩ ⟨rfl, rfl, rfl, rfl, rfl, rfl, rfl, rfl, trivial⟩ ?_
      rintro _ _ _ ⟨i, rfl, rfl, hil, rfl⟩
      by_cases hlt : i < l.length
      · obtain ⟨x, hx⟩ : ∃ x, l[i]? = some x := ⟨_, List.getElem?_eq_getElem hlt⟩
        obtain ⟨b1, o1, rfl, ce1⟩ := rd_int hl8.rd hx
        have hxj : x ≠ (j : Int) := fun e => hjl (e ▸ List.mem_of_getElem? hx)
        refine sx_seq ?_
        refine sx_seq ?_
        refine sx_region ?_
        refine sxl_y (wn_none rfl) rfl rfl (yp rfl) ?_
        refine sxl_y (wn_none rfl) rfl rfl (yp rfl) ?_
        refine sxl_y (wn_none rfl) rfl rfl (y_len rfl rfl (sl rfl)) ?_
        refine sxl_y (wn_none rfl) rfl rfl (y_lss_t rfl rfl rfl (by omega)) ?_
        refine sxl_nil ?_
        refine qx_seq ?_
        refine sx_true rfl ?_
        refine sx_skip ?_
        refine qx_seq ?_
        refine sx_seq ?_
        refine sx_block ?_
        refine sx_seq ?_
        refine sx_region ?_
        refine sxl_y (wn_none rfl) rfl rfl (yp rfl) ?_
        refine sxl_y (wn_none rfl) rfl rfl (yp rfl) ?_
        refine sxl_y (wn_none rfl) rfl rfl (y_indexN rfl rfl rfl (sl rfl) (by omega)) ?_
        refine sxl_y (wn_none rfl) rfl rfl (y_load rfl rfl (sc rfl) (by assumption)) ?_
        refine sxl_y (wn_none rfl) rfl rfl (yp rfl) ?_
        refine sxl_y (wn_none rfl) rfl rfl (y_eql_f rfl rfl rfl (by omega)) ?_
        refine sxl_nil ?_
        refine qx_seq ?_
        refine sx_false rfl ?_
        refine sx_skip ?_
        refine qx_block_normal ?_
        refine qx_seq ?_
        refine sx_region ?_
        refine sxl_y (wn_none rfl) rfl rfl (yp rfl) ?_
        refine sxl_y (wn_none rfl) rfl rfl (y_add rfl rfl rfl (by omega)) ?_
        refine sxl_y (wn_none rfl) rfl rfl (yp rfl) ?_
        refine sxl_nil ?_
        exact qx_again [(24, .int .i64 ((i + 1 : Nat) : Int)), (22, .int .i64 (j : Int)), (20, .int .i64 (k : Int)), (17, .int .i64 (d : Int)), (12, .slice (some ⟨b1, o1, none⟩) l.length c), (11, .pointer (some ⟨Q6.gp, 0, none⟩)), (0, .int .i64 (N : Int)), (3, .int .u8 (tk.toNat : Int))] (l.length - (i + 1)) ⟨i + 1, rfl, rfl, hlt, rfl⟩ (by omega) ⟨rfl, rfl, rfl, rfl, rfl, rfl, rfl, rfl, trivial⟩
      · refine sx_seq ?_
        refine sx_seq ?_
        refine sx_region ?_
        refine sxl_y (wn_none rfl) rfl rfl (yp rfl) ?_
        refine sxl_y (wn_none rfl) rfl rfl (yp rfl) ?_
        refine sxl_y (wn_none rfl) rfl rfl (y_len rfl rfl (sl rfl)) ?_
        refine sxl_y (wn_none rfl) rfl rfl (y_lss_f rfl rfl rfl (by omega)) ?_
        refine sxl_nil ?_
        refine qx_seq ?_
        refine sx_false rfl ?_
        refine sx_exit ?_
        refine qx_then_exit ?_
        refine qx_then_exit ?_
        refine qx_block_hit ?_
        refine qx_seq ?_
        refine sx_region ?_
        refine sxl_y (wn_none rfl) rfl rfl (yp rfl) ?_
        refine sxl_y (wn_none rfl) rfl rfl (yp rfl) ?_
        refine sxl_nil ?_
        refine qx_block_normal ?_
        refine qx_seq ?_
        refine sx_region ?_
        refine sxl_y (wn_none rfl) rfl rfl (yp rfl) ?_
        refine sxl_y (wn_none rfl) rfl rfl (y_add rfl rfl rfl (by omega)) ?_
        refine sxl_y (wn_none rfl) rfl rfl (yp rfl) ?_
        refine sxl_nil ?_
        exact qx_again [(20, .int .i64 ((k + 1 : Nat) : Int)), (19, .int .i64 (j : Int)), (17, .int .i64 (d : Int)), (12, .slice A l.length c), (11, .pointer (some ⟨Q6.gp, 0, none⟩)), (0, .int .i64 (N : Int)), (3, .int .u8 (tk.toNat : Int))] (T - (k + 1)) ⟨k + 1, j, _, rfl, hk, by omega, by omega, h8, hl8, htk8, rfl⟩ (by omega) ⟨rfl, rfl, rfl, rfl, rfl, rfl, rfl, trivial⟩
  refine qx_block_hit ?_
  refine qx_seq ?_
  refine sx_seq ?_
  refine sx_seq ?_
  refine sx_region ?_
  refine sxl_y (wn_none rfl) rfl rfl (yp rfl) ?_
  refine sxl_call (some 195) (by first | exact wn_none rfl | exact wn_on rfl rfl rfl) rfl rfl (yc_call rfl rfl Tryd.call15) (abort_f h7.pg (hg _ _ _)) ?_
  rintro _ w9 ⟨rfl, hto9⟩
  refine ⟨_, rfl, ?_⟩
  have h9 := h7.to hto9
  have hl9 := hl7.to hto9
  have h9 : Sd w w9 Q6 ⟨N, 1, 0, usedOf l, false⟩ s := by rw [← htk7.undo]; exact h9
  refine sxl_y (wn_none rfl) rfl rfl (y_neq_f rfl rfl rfl (by omega)) ?_
  refine sxl_y (wn_none rfl) rfl rfl (yp rfl) ?_
  refine sxl_y (wn_on rfl rfl rfl) rfl rfl (yp rfl) ?_
  refine sxl_pure (wn_on rfl rfl rfl) rfl rfl (yc_call rfl rfl Tryd.call22) (free_at h9.pg (by show N ≤ _; omega) hFu) ?_
  refine sxl_y (wn_on rfl rfl rfl) rfl rfl (yp rfl) ?_
  refine sxl_y (wn_on rfl rfl rfl) rfl rfl (y_sub rfl rfl rfl (by omega)) ?_
  refine sxl_y (wn_on rfl rfl rfl) rfl rfl (yp rfl) ?_
  refine sxl_y (wn_on rfl rfl rfl) rfl rfl (y_len rfl rfl (sl rfl)) ?_
  refine sxl_y (wn_on rfl rfl rfl) rfl rfl (y_sub rfl rfl rfl (by omega)) ?_
  refine sxl_y (wn_on rfl rfl rfl) rfl rfl (y_neq_f rfl rfl rfl (by omega)) ?_
  refine sxl_y (wn_none rfl) rfl rfl (yp rfl) ?_
  refine sxl_y (wn_none rfl) rfl rfl (yp rfl) ?_
  refine sxl_y (wn_on rfl rfl rfl) rfl rfl (yp rfl) ?_
  refine sxl_y (wn_on rfl rfl rfl) rfl rfl (yp rfl) ?_
  refine sxl_y (wn_on rfl rfl rfl) rfl rfl (y_len rfl rfl (sl rfl)) ?_
  refine sxl_y (wn_on rfl rfl rfl) rfl rfl (y_gtr_f rfl rfl rfl (by omega)) ?_
  refine sxl_y (wn_none rfl) rfl rfl (yp rfl) ?_
  refine sxl_nil ?_
  refine qx_seq ?_
  refine sx_false rfl ?_
  refine sx_skip ?_
  refine qx_seq ?_
  refine sx_seq ?_
  refine sx_seq ?_
  refine sx_region ?_
  refine sxl_y (wn_none rfl) rfl rfl (yp rfl) ?_
  refine sxl_nil ?_
  refine qx_seq ?_
  refine sx_block ?_
  refine sx_loop (fun e wr m => ∃ (i : Nat), e = [(25, .int .i64 (i : Int)), (12, .slice A l.length c), (11, .pointer (some ⟨Q6.gp, 0, none⟩)), (0, .int .i64 (N : Int))] ∧ i ≤ l.length ∧ Sd w wr Q6 ⟨N, 1, 0, dropOf l i, false⟩ s ∧ Lst wr Q6 A l ∧ m = l.length - i)
    ⟨0, rfl, Nat.zero_le _, by
      have e : dropOf l 0 = usedOf l := by funext k; simp [dropOf]
      rw [e]; exact h9, hl9, rfl⟩ ⟨rfl, rfl, rfl, rfl, trivial⟩ ?_
  clear h7 hl7 htk7 h9 hl9 hto9
  rintro _ wr4 _ ⟨i, rfl, hil, h7, hl7, rfl⟩
  by_cases hlt : i < l.length
  · obtain ⟨n, hx⟩ : ∃ x, l[i]? = some x := ⟨_, List.getElem?_eq_getElem hlt⟩
    obtain ⟨b1, o1, rfl, ce1⟩ := rd_int hl7.rd hx
    obtain ⟨hn1, hn2⟩ := hin n (List.mem_of_getElem? hx)
    refine sx_seq ?_
    refine sx_seq ?_
    refine sx_region ?_
    refine sxl_y (wn_none rfl) rfl rfl (yp rfl) ?_
    refine sxl_y (wn_none rfl) rfl rfl (yp rfl) ?_
    refine sxl_y (wn_none rfl) rfl rfl (y_len rfl rfl (sl rfl)) ?_
    refine sxl_y (wn_none rfl) rfl rfl (y_lss_t rfl rfl rfl (by omega)) ?_
    refine sxl_nil ?_
    refine qx_seq ?_
    refine sx_true rfl ?_
    refine sx_skip ?_
    refine qx_seq ?_
    refine sx_seq ?_
    refine sx_block ?_
    refine sx_seq ?_
    refine sx_region ?_
    refine sxl_y (wn_none rfl) rfl rfl (yp rfl) ?_
    refine sxl_y (wn_none rfl) rfl rfl (yp rfl) ?_
    refine sxl_y (wn_none rfl) rfl rfl (yp rfl) ?_
    refine sxl_y (wn_none rfl) rfl rfl (y_indexN rfl rfl rfl (sl rfl) (by omega)) ?_
    refine sxl_y (wn_none rfl) rfl rfl (y_load rfl rfl (sc rfl) (by assumption)) ?_
    refine sxl_call (some 224) (by first | exact wn_none rfl | exact wn_on rfl rfl rfl) rfl rfl (yc_call rfl rfl Tryd.call11) (drop_1 h7.pg (hg _ _ _) hn1 hn2 (dropOf_at hnd hx)) ?_
    rintro _ w8 ⟨rfl, hto8⟩
    refine ⟨_, rfl, ?_⟩
    refine sxl_y (wn_none rfl) rfl rfl (y_neq_f rfl rfl rfl (by omega)) ?_
    refine sxl_nil ?_
    refine qx_seq ?_
    refine sx_false rfl ?_
    refine sx_skip ?_
    refine qx_block_normal ?_
    refine qx_seq ?_
    refine sx_region ?_
    refine sxl_y (wn_none rfl) rfl rfl (yp rfl) ?_
    refine sxl_y (wn_none rfl) rfl rfl (y_add rfl rfl rfl (by omega)) ?_
    refine sxl_y (wn_none rfl) rfl rfl (yp rfl) ?_
    refine sxl_nil ?_
    exact qx_again [(25, .int .i64 ((i + 1 : Nat) : Int)), (12, .slice (some ⟨b1, o1, none⟩) l.length c), (11, .pointer (some ⟨Q6.gp, 0, none⟩)), (0, .int .i64 (N : Int))] (l.length - (i + 1)) ⟨i + 1, rfl, hlt, by rw [← dropOf_step hx]; exact h7.to hto8, hl7.to hto8, rfl⟩ (by omega) ⟨rfl, rfl, rfl, rfl, trivial⟩
  · obtain rfl : i = l.length := by omega
    have hcm := commit_ok h7.pg 1 0 (hg _ _ _) rfl (by decide) (.inl rfl) (by show N * 4 ≤ _; omega) hN1 (by omega)
    rw [DS.commit_safe ffs, if_pos rfl, if_pos rfl] at hcm
    refine sx_seq ?_
    refine sx_seq ?_
    refine sx_region ?_
    refine sxl_y (wn_none rfl) rfl rfl (yp rfl) ?_
    refine sxl_y (wn_none rfl) rfl rfl (yp rfl) ?_
    refine sxl_y (wn_none rfl) rfl rfl (y_len rfl rfl (sl rfl)) ?_
    refine sxl_y (wn_none rfl) rfl rfl (y_lss_f rfl rfl rfl (by omega)) ?_
    refine sxl_nil ?_
    refine qx_seq ?_
    refine sx_false rfl ?_
    refine sx_exit ?_
    refine qx_then_exit ?_
    refine qx_then_exit ?_
    refine qx_block_hit ?_
    refine qx_seq ?_
    refine sx_seq ?_
    refine sx_region ?_
    refine sxl_y (wn_none rfl) rfl rfl (yp rfl) ?_
    refine sxl_call (some 227) (by first | exact wn_none rfl | exact wn_on rfl rfl rfl) rfl rfl (yc_call rfl rfl Tryd.call16) (hcm) ?_
    rintro _ w8 ⟨Q8, rfl, hto8⟩
    refine ⟨_, rfl, ?_⟩
    have h8 := h7.to hto8
    have hgp8 : Q8.gp = Q6.gp := hto8.gp
    rw [← hgp8]
    have hfr8 : freeUpto (PS.commit ⟨N, 1, 0, dropOf l l.length, false⟩ 0).st N = N - 2 := by
      have e : (PS.commit ⟨N, 1, 0, dropOf l l.length, false⟩ 0).st = fun _ => 0 := dropOf_end l
      rw [e]; exact freeUpto_all N
    have hsq := seq_ok h8.pg
    rw [show (PS.commit ⟨N, 1, 0, dropOf l l.length, false⟩ 0).seq = 2 from rfl] at hsq
    refine sxl_y (wn_none rfl) rfl rfl (y_eql_t rfl rfl rfl (by omega)) ?_
    refine sxl_y (wn_none rfl) rfl rfl (yp rfl) ?_
    refine sxl_y (wn_on rfl rfl rfl) rfl rfl (yp rfl) ?_
    refine sxl_pure (wn_on rfl rfl rfl) rfl rfl (yc_call rfl rfl Tryd.call22) (free_at h8.pg (by show N ≤ _; omega) hfr8) ?_
    refine sxl_y (wn_on rfl rfl rfl) rfl rfl (yp rfl) ?_
    refine sxl_y (wn_on rfl rfl rfl) rfl rfl (y_sub rfl rfl rfl (by omega)) ?_
    refine sxl_y (wn_on rfl rfl rfl) rfl rfl (y_eql_t rfl rfl rfl (by omega)) ?_
    refine sxl_y (wn_none rfl) rfl rfl (yp rfl) ?_
    refine sxl_y (wn_none rfl) rfl rfl (yp rfl) ?_
    refine sxl_y (wn_on rfl rfl rfl) rfl rfl (yp rfl) ?_
    refine sxl_pure (wn_on rfl rfl rfl) rfl rfl (yc_call rfl rfl Tryd.call23) (hsq) ?_
    refine sxl_y (wn_on rfl rfl rfl) rfl rfl (y_eql_t rfl rfl rfl (by omega)) ?_
    refine sxl_y (wn_none rfl) rfl rfl (yp rfl) ?_
    refine sxl_y (wn_none rfl) rfl rfl (yp rfl) ?_
    refine sxl_nil ?_
    refine qx_seq ?_
    refine sx_ret ?_
    refine qx_ret1 rfl rfl ?_
    exact ⟨rfl, h8.fr⟩
end Go.Proofs.YthdlljlcffokbaaDoor
