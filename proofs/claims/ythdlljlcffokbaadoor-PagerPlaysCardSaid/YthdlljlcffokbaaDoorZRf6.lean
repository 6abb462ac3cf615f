/- The pager and the document's, side by side: what it is that they are alike; what is told. No condition. -/
import Derived.Test.YthdlljlcffokbaaDoorZRf5
import Derived.KernelRfl
namespace Go.Proofs.YthdlljlcffokbaaDoor
open Go.RowKit

/-- A page that nobody wrote. -/
def zpage : List UInt8 := List.replicate 512 0
theorem zsum (n : Nat) (h : n < 23) : pageSum n (List.replicate 504 0) ≠ 0 := by
  have : ∀ n : Fin 23, pageSum n.val (List.replicate 504 0) ≠ 0 := by decide +kernel
  exact this ⟨n, h⟩
theorem zpage_no {n : Nat} (h : n < 23) : ¬ DecOk n zpage := fun hd => by
  have hs := decOk_sum hd
  have e1 : zpage.drop 8 = List.replicate 504 0 := by unfold zpage; rw [List.drop_replicate]
  have e2 : zpage.take 8 = be8 0 := by unfold zpage; rw [List.take_replicate]; decide
  rw [e1, e2] at hs
  exact zsum n h (be8_inj (fnv_lt _ (fnv_lt _ fnv0_lt _) _) (by decide) hs)
/-- Both stand alike. -/
structure Sm (N B : Nat) (p : PS) (s : DS) (x : RX) : Prop where
  n3 : 3 ≤ N
  n22 : N ≤ 22
  pages : p.pages = N
  dead : p.dead = false
  ddead : s.dead = false
  fset : s.fset = false
  keep : s.keep = []
  syn : s.Syn
  ln : s.lasts.length / 4 = N
  lens : s.shows.length = s.lasts.length
  xlen : x.st.length = N
  seq : p.seq = x.seq
  root : p.root = x.root
  st : ∀ k : Nat, 2 ≤ k → k < N → p.st (k : Int) = lst x.st (k : Int)
  out : ∀ k : Int, k < 2 ∨ (N : Int) ≤ k → p.st k = 0
  ms : ∃ a0 b0 a1 b1 : Nat, x.s0 = a0 ∧ x.r0 = b0 ∧ x.s1 = a1 ∧ x.r1 = b1 ∧ a0 ≤ B + 1 ∧ a1 ≤ B + 1 ∧ RootOk N b0 ∧ RootOk N b1 ∧ PgIs s.shows 0 (metaP 0 a0 b0) ∧ PgIs s.shows 1 (metaP 1 a1 b1)
  wr : ∀ n : Nat, 2 ≤ n → n < N → (∃ t, x.wrote (n : Int) = some t ∧ t.length ≤ 502 ∧ PgIs s.shows n (pageOf n t)) ∨ (x.wrote (n : Int) = none ∧ PgIs s.shows n zpage)
  sq : ∃ q : Nat, x.seq = q ∧ q ≤ B + 1
  b : B ≤ 100
  waits : s.waits.length ≤ 30 * B
  done : s.done ≤ 30 * B
section
variable {N B : Nat} {p : PS} {s : DS} {x : RX}
theorem Sm.gone (h : Sm N B p s x) : p.gone s = false := by unfold PS.gone; rw [h.dead, h.ddead]; rfl
theorem Sm.room (h : Sm N B p s x) : p.pages * 4 ≤ s.lasts.length := by have := h.ln; rw [h.pages]; omega
theorem freeUpto_cut {a b : Int → Int} : ∀ (n : Nat), (∀ k : Nat, 2 ≤ k → k < n → a (k : Int) = b (k : Int)) → freeUpto a n = freeUpto b n := fun n h => freeUpto_congr n (fun k h1 h2 => by rw [h k h1 h2])
theorem Sm.free (h : Sm N B p s x) : p.free = freeUpto (lst x.st) x.st.length := by
  unfold PS.free
  rw [h.pages, h.xlen]
  exact freeUpto_cut N h.st
theorem Sm.read (h : Sm N B p s x) (n : Int) : p.readA s n = ((x.read n).2, (x.read n).1) := by
  unfold PS.readA RX.read PS.at_
  have h22 := h.n22
  rw [h.gone, if_neg (show ¬ (false = true) by decide), h.pages, h.xlen]
  by_cases hn : n < 2 ∨ (N : Int) ≤ n
  · rw [if_pos hn, if_pos hn, if_pos (by decide)]
  rw [if_neg hn, if_neg hn, if_neg (show ¬ (0 : Int) ≠ 0 by decide)]
  obtain ⟨k, rfl⟩ : ∃ k : Nat, n = (k : Int) := ⟨n.toNat, by omega⟩
  rw [h.st k (by omega) (by omega)]
  by_cases h0 : lst x.st (k : Int) = 0
  · rw [if_pos h0, if_pos h0]
  rw [if_neg h0, if_neg h0]
  by_cases h2 : lst x.st (k : Int) = 2
  · rw [if_pos h2, if_pos h2]
  rw [if_neg h2, if_neg h2, Int.toNat_natCast]
  rcases h.wr k (by omega) (by omega) with ⟨t, h3, h4, h5⟩ | ⟨h3, h5⟩
  · rw [h3, DS.page_of h5 (pageOf_length _ _ h4), decA_ok (page_ok _ _ h4), page_long _ _ h4, page_out]
  · rw [h3, DS.page_of h5 (by unfold zpage; exact List.length_replicate), decA_no (zpage_no (by omega))]
end
/-- Both in one memory. -/
structure Pw (w0 w : World) (Q : PL) (p : PS) (s : DS) (R : RP) (x : RX) : Prop where
  pg : PgAt w Q p s
  rf : RfAt w R x
  dis : ∀ b, R.blocks b → ¬ Q.blocks b
  ownQ : ∀ b, Q.blocks b → w0.heap.size ≤ b
  ownR : ∀ b, R.blocks b → w0.heap.size ≤ b
  fr : Fr0 w0 w
section
variable {w0 w w' : World} {Q : PL} {p : PS} {s : DS} {R : RP} {x : RX}
theorem PgAt.frS {S : Nat → Prop} (h : PgAt w Q p s) (hf : Fr S w w') (hn : ∀ b, Q.blocks b → ¬ S b) (hk : s.keep = []) : PgAt w' Q p s :=
  ⟨h.dk.fr hf (fun b hb => hn b (.inr (.inr hb))) (fun h0 => by rw [hk] at h0; exact absurd h0 (Nat.lt_irrefl 0)), h.hd.fr hf (hn _ (.inl rfl)), h.hm.fr hf (hn _ (.inr (.inl rfl))), h.kp⟩
theorem Pw.fr0 (h : Pw w0 w Q p s R x) (hf : Fr0 w w') : Pw w0 w' Q p s R x := ⟨h.pg.fr0 hf, h.rf.fr0 hf, h.dis, h.ownQ, h.ownR, h.fr.trans hf⟩
/-- What is new is none of theirs. -/
theorem Pw.frS {S : Nat → Prop} (h : Pw w0 w Q p s R x) (hf : Fr S w w') (hS : ∀ b, b < w.heap.size → ¬ S b) (hk : s.keep = []) : Pw w0 w' Q p s R x :=
  ⟨h.pg.frS hf (fun b hb hh => hS b (h.pg.lt hb) hh) hk, h.rf.fr hf (fun b hb hh => hS b (h.rf.lt hb) hh), h.dis, h.ownQ, h.ownR, h.fr.step hf (fun b hb hh => absurd hh (hS b (Nat.lt_of_lt_of_le hb h.fr.size)))⟩
theorem Pw.toQ {Q' : PL} {p' : PS} {s' : DS} (h : Pw w0 w Q p s R x) (h' : PgTo w w' Q Q' p' s') : Pw w0 w' Q' p' s' R x where
  pg := h'.pg
  rf := h.rf.fr h'.fr h.dis
  dis := fun b hb hq => by
    rcases h'.bl b hq with hq | hq
    · exact h.dis b hb hq
    · have := h.rf.lt hb; omega
  ownQ := fun b hb => by
    rcases h'.bl b hb with hb | hb
    · exact h.ownQ b hb
    · exact Nat.le_trans h.fr.size hb
  ownR := h.ownR
  fr := h.fr.step h'.fr (fun b hb e => by have := h.ownQ b e; omega)
/-- Another pager on the same disk. -/
theorem Pw.newQ {Q' : PL} {p' : PS} {s' : DS} (h : Pw w0 w Q p s R x) (h' : PgNew w w' Q.L Q' p' s') : Pw w0 w' Q' p' s' R x where
  pg := h'.pg
  rf := h.rf.fr h'.fr (fun b hb hq => h.dis b hb (.inr (.inr hq)))
  dis := fun b hb hq => by
    rcases h'.bl b hq with hq | hq
    · exact h.dis b hb (.inr (.inr hq))
    · have := h.rf.lt hb; omega
  ownQ := fun b hb => by
    rcases h'.bl b hb with hb | hb
    · exact h.ownQ b (.inr (.inr hb))
    · exact Nat.le_trans h.fr.size hb
  ownR := h.ownR
  fr := h.fr.step h'.fr (fun b hb e => by have := h.ownQ b (.inr (.inr e)); omega)
theorem Pw.toR {x' : RX} (h : Pw w0 w Q p s R x) (h' : RfTo w w' R x') (hk : s.keep = []) : Pw w0 w' Q p s R x' where
  pg := h.pg.frS h'.fr (fun b hb hr => h.dis b hr hb) hk
  rf := h'.at_
  dis := h.dis
  ownQ := h.ownQ
  ownR := h.ownR
  fr := h.fr.step h'.fr (fun b hb e => by have := h.ownR b e; omega)
/-- The document's pager is another one, on its disk. -/
theorem Pw.newR {R' : RP} {x' : RX} (h : Pw w0 w Q p s R x) (hx : RfAt w' R' x') (hf : Fr R.blocks w w') (hb : ∀ b, R'.blocks b → R.blocks b ∨ w.heap.size ≤ b) (hk : s.keep = []) : Pw w0 w' Q p s R' x' where
  pg := h.pg.frS hf (fun b hb hr => h.dis b hr hb) hk
  rf := hx
  dis := fun b hb' hq => by
    rcases hb b hb' with hr | hr
    · exact h.dis b hr hq
    · have := h.pg.lt hq; omega
  ownQ := h.ownQ
  ownR := fun b hb' => by
    rcases hb b hb' with hr | hr
    · exact h.ownR b hr
    · exact Nat.le_trans h.fr.size hr
  fr := h.fr.step hf (fun b hb e => by have := h.ownR b e; omega)
set_option maxHeartbeats 16000000 in
theorem told_ok {N B : Nat} (h : Pw w0 w Q p s R x) (sm : Sm N B p s x) :
    Calls Tryd.prog 29 #[.pointer (some ⟨Q.gp, 0, none⟩), .pointer (some ⟨R.gp, 0, none⟩)] w fun e w' => e = .returned (.bool true) ∧ Fr0 w w' := by
  have h22 := sm.n22
  have hpc := sm.pages
  have hxl := sm.xlen
  have q0 : Cell w.drew.heap R.gp 0 (.pointer (some ⟨R.gd, 0, none⟩)) := (h.rf.fr0 Fr.refl.drew).c0
  have q2 : Cell w.drew.heap R.gp 2 (.int .i64 x.seq) := (h.rf.fr0 Fr.refl.drew).c2
  have q3 : Cell w.drew.heap R.gp 3 (.int .i64 x.root) := (h.rf.fr0 Fr.refl.drew).c3
  have qd : Cell w.drew.heap R.gd 0 (.int .i64 (x.st.length : Int)) := (h.rf.fr0 Fr.refl.drew).d0
  have hpd : PgAt w.drew Q p s := h.pg.fr0 Fr.refl.drew
  have hpages := pages_ok hpd
  have hfree := free_ok hpd (by omega)
  have hrfree := rfree_ok (h.rf.fr0 (Fr.refl.drew : Fr0 w w.drew)) (by have := sm.n3; omega) (by omega)
  have hseq := seq_ok hpd
  have hroot := root_ok hpd
  rw [hpc] at hpages
  rw [sm.free] at hfree
  rw [sm.seq] at hseq
  rw [sm.root] at hroot
  rw [hxl] at qd
  refine sx_enter (vs := [_, _]) Tryd.func29 rfl Tryd.ntmps29 rfl ?_
  refine sx_seq ?_
  refine sx_region ?_
  refine sxl_y (wn_none rfl) rfl rfl (yp rfl) ?_
  refine sxl_nil ?_
  refine qx_seq ?_
  refine sx_seq ?_
  refine sx_seq ?_
  refine sx_still hmix (by kernel_rfl) ?_
  refine sxs_y (wn_none rfl) rfl rfl (yp rfl) ?_
  refine sxs_call (wn_none rfl) rfl rfl (yc_call rfl rfl Tryd.call52) (hpages) ?_
  iterate 3 refine sxs_y (wn_none rfl) rfl rfl (yp rfl) ?_
  refine sxs_y (wn_none rfl) rfl rfl (y_load rfl rfl (sc rfl) (by assumption)) ?_
  iterate 2 refine sxs_y (wn_none rfl) rfl rfl (yp rfl) ?_
  refine sxs_y (wn_none rfl) rfl rfl (y_load rfl rfl (sc rfl) (by assumption)) ?_
  refine sxs_y (wn_none rfl) rfl rfl (y_neq_f rfl rfl rfl (by omega)) ?_
  refine sxs_y (wn_none rfl) rfl rfl (yp rfl) ?_
  refine sxs_y (wn_on rfl rfl rfl) rfl rfl (yp rfl) ?_
  refine sxs_call (wn_on rfl rfl rfl) rfl rfl (yc_call rfl rfl Tryd.call22) (hfree) ?_
  refine sxs_y (wn_on rfl rfl rfl) rfl rfl (yp rfl) ?_
  refine sxs_call (wn_on rfl rfl rfl) rfl rfl (yc_call rfl rfl Tryd.call53) (hrfree) ?_
  refine sxs_y (wn_on rfl rfl rfl) rfl rfl (y_neq_f rfl rfl rfl (by omega)) ?_
  iterate 2 refine sxs_y (wn_none rfl) rfl rfl (yp rfl) ?_
  refine sxs_y (wn_on rfl rfl rfl) rfl rfl (yp rfl) ?_
  refine sxs_call (wn_on rfl rfl rfl) rfl rfl (yc_call rfl rfl Tryd.call23) (hseq) ?_
  refine sxs_y (wn_on rfl rfl rfl) rfl rfl (yp rfl) ?_
  refine sxs_y (wn_on rfl rfl rfl) rfl rfl (yp rfl) ?_
  refine sxs_y (wn_on rfl rfl rfl) rfl rfl (yp rfl) ?_
  refine sxs_y (wn_on rfl rfl rfl) rfl rfl (y_load rfl rfl (sc rfl) (by assumption)) ?_
  refine sxs_y (wn_on rfl rfl rfl) rfl rfl (y_neq_f rfl rfl rfl (by omega)) ?_
  iterate 2 refine sxs_y (wn_none rfl) rfl rfl (yp rfl) ?_
  refine sxs_y (wn_on rfl rfl rfl) rfl rfl (yp rfl) ?_
  refine sxs_call (wn_on rfl rfl rfl) rfl rfl (yc_call rfl rfl Tryd.call54) (hroot) ?_
  refine sxs_y (wn_on rfl rfl rfl) rfl rfl (yp rfl) ?_
  refine sxs_y (wn_on rfl rfl rfl) rfl rfl (yp rfl) ?_
  refine sxs_y (wn_on rfl rfl rfl) rfl rfl (yp rfl) ?_
  refine sxs_y (wn_on rfl rfl rfl) rfl rfl (y_load rfl rfl (sc rfl) (by assumption)) ?_
  refine sxs_y (wn_on rfl rfl rfl) rfl rfl (y_neq_f rfl rfl rfl (by omega)) ?_
  refine sxs_y (wn_none rfl) rfl rfl (yp rfl) ?_
  refine sxs_end ?_
  refine qx_seq ?_
  refine sx_false rfl ?_
  refine sx_skip ?_
  refine qx_seq ?_
  refine sx_seq ?_
  refine sx_seq ?_
  refine sx_region ?_
  refine sxl_y (wn_none rfl) rfl rfl (yp rfl) ?_
  refine sxl_nil ?_
  refine qx_seq ?_
  refine sx_block ?_
  refine sx_loop (fun e wr m => ∃ (i : Nat), e = [(5, .int .i64 ((i : Int) - 1)), (0, .pointer (some ⟨Q.gp, 0, none⟩)), (1, .pointer (some ⟨R.gp, 0, none⟩))] ∧ i ≤ N + 2 ∧ Fr0 w wr ∧ m = N + 2 - i)
    ⟨0, rfl, Nat.zero_le _, Fr.refl.drew, rfl⟩ ⟨rfl, rfl, rfl, trivial⟩ ?_
  rintro _ wr _ ⟨i, rfl, hi, hfr, rfl⟩
  have hr := h.rf.fr0 hfr
  have c0 := hr.c0
  have d0 := hr.d0
  rw [hxl] at d0
  by_cases hlt : i < N + 2
  · have hread := pRead_any (h.pg.fr0 hfr) ((i : Int) - 1) sm.room
    rw [sm.read] at hread
    generalize hrx : x.read ((i : Int) - 1) = rx at hread
    refine sx_seq ?_
    refine sx_seq ?_
    refine sx_region ?_
    iterate 4 refine sxl_y (wn_none rfl) rfl rfl (yp rfl) ?_
    refine sxl_y (wn_none rfl) rfl rfl (y_load rfl rfl (sc rfl) (by assumption)) ?_
    iterate 2 refine sxl_y (wn_none rfl) rfl rfl (yp rfl) ?_
    refine sxl_y (wn_none rfl) rfl rfl (y_load rfl rfl (sc rfl) (by assumption)) ?_
    refine sxl_y (wn_none rfl) rfl rfl (y_leq_t rfl rfl rfl (by omega)) ?_
    refine sxl_y (wn_none rfl) rfl rfl (yp rfl) ?_
    refine sxl_y (wn_on rfl rfl rfl) rfl rfl (yp rfl) ?_
    refine sxl_y (wn_on rfl rfl rfl) rfl rfl (y_lss_t rfl rfl rfl (by omega)) ?_
    refine sxl_y (wn_none rfl) rfl rfl (yp rfl) ?_
    refine sxl_nil ?_
    refine qx_seq ?_
    refine sx_true rfl ?_
    refine sx_skip ?_
    refine qx_seq ?_
    refine sx_seq ?_
    refine sx_block ?_
    refine sx_seq ?_
    refine sx_region ?_
    iterate 2 refine sxl_y (wn_none rfl) rfl rfl (yp rfl) ?_
    refine sxl_call (some 63) (by first | exact wn_none rfl | exact wn_on rfl rfl rfl) rfl rfl (yc_call rfl rfl Tryd.call30) (hread) ?_
    rintro _ w1 ⟨v, rfl, ho, hf1⟩
    refine ⟨_, rfl, ?_⟩
    have hrr := rread_any (hr.fr0 hf1) ((i : Int) - 1)
    rw [hrx] at hrr
    have ho : w1.ownsRow wr.heap.size 5 1 v rx.1.length (bvs rx.1) := ho
    obtain ⟨A, c, rfl, _, _, hrd, _⟩ := own_form ho
    iterate 5 refine sxl_y (wn_none rfl) rfl rfl (yp rfl) ?_
    refine sxl_nil ?_
    refine qx_seq ?_
    refine sx_seq ?_
    refine sx_region ?_
    iterate 2 refine sxl_y (wn_none rfl) rfl rfl (yp rfl) ?_
    refine sxl_pure (wn_none rfl) rfl rfl (yc_call rfl rfl Tryd.call49) (hrr) ?_
    iterate 5 refine sxl_y (wn_none rfl) rfl rfl (yp rfl) ?_
    refine sxl_nil ?_
    refine qx_seq ?_
    refine sx_seq ?_
    refine sx_region ?_
    iterate 2 refine sxl_y (wn_none rfl) rfl rfl (yp rfl) ?_
    refine sxl_y (wn_none rfl) rfl rfl (y_neq_f rfl rfl rfl (by omega)) ?_
    refine sxl_y (wn_none rfl) rfl rfl (yp rfl) ?_
    refine sxl_y (wn_on rfl rfl rfl) rfl rfl (yp rfl) ?_
    refine sxl_y (wn_on rfl rfl rfl) rfl rfl (y_bstr rfl rfl Tryd.underlying39 Tryd.underlying5 Tryd.underlying9 hrd) ?_
    refine sxl_y (wn_on rfl rfl rfl) rfl rfl (yp rfl) ?_
    refine sxl_y (wn_on rfl rfl rfl) rfl rfl (y_sneq_f (b := rx.1) rfl rfl rfl rfl) ?_
    refine sxl_y (wn_none rfl) rfl rfl (yp rfl) ?_
    refine sxl_nil ?_
    refine qx_seq ?_
    refine sx_false rfl ?_
    refine sx_skip ?_
    refine qx_block_normal ?_
    refine qx_seq ?_
    refine sx_region ?_
    refine sxl_y (wn_none rfl) rfl rfl (yp rfl) ?_
    refine sxl_y (wn_none rfl) rfl rfl (y_add rfl rfl rfl (by omega)) ?_
    refine sxl_y (wn_none rfl) rfl rfl (yp rfl) ?_
    refine sxl_nil ?_
    exact qx_again [(5, .int .i64 (((i + 1 : Nat) : Int) - 1)), (0, .pointer (some ⟨Q.gp, 0, none⟩)), (1, .pointer (some ⟨R.gp, 0, none⟩))] (N + 2 - (i + 1)) ⟨i + 1, rfl, hlt, hfr.trans hf1, rfl⟩ (by omega) ⟨by
      show some (Value.int .i64 ((i : Int) - 1 + 1)) = _
      congr 2; omega, rfl, rfl, trivial⟩
  · refine sx_seq ?_
    refine sx_seq ?_
    refine sx_region ?_
    iterate 4 refine sxl_y (wn_none rfl) rfl rfl (yp rfl) ?_
    refine sxl_y (wn_none rfl) rfl rfl (y_load rfl rfl (sc rfl) (by assumption)) ?_
    iterate 2 refine sxl_y (wn_none rfl) rfl rfl (yp rfl) ?_
    refine sxl_y (wn_none rfl) rfl rfl (y_load rfl rfl (sc rfl) (by assumption)) ?_
    refine sxl_y (wn_none rfl) rfl rfl (y_leq_f rfl rfl rfl (by omega)) ?_
    refine sxl_y (wn_none rfl) rfl rfl (yp rfl) ?_
    refine sxl_off rfl rfl rfl rfl rfl rfl ?_
    refine sxl_off rfl rfl rfl rfl rfl rfl ?_
    refine sxl_y (wn_none rfl) rfl rfl (yp rfl) ?_
    refine sxl_nil ?_
    refine qx_seq ?_
    refine sx_false rfl ?_
    refine sx_exit ?_
    refine qx_then_exit ?_
    refine qx_then_exit ?_
    refine qx_block_hit ?_
    refine qx_seq ?_
    refine sx_seq ?_
    refine sx_region ?_
    refine sxl_y (wn_none rfl) rfl rfl (yp rfl) ?_
    refine sxl_nil ?_
    refine qx_seq ?_
    refine sx_ret ?_
    refine qx_ret1 rfl rfl ?_
    exact ⟨rfl, hfr⟩
end
end Go.Proofs.YthdlljlcffokbaaDoor
