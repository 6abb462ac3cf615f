/- The document's disk: Crash. -/
import Derived.Test.YtbfeailalhddgaaRef3
namespace Go.Proofs.Ytbfeailalhddgaa
open Go.RowKit

theorem setL_wf {s : DS} (h : s.Wf) {l : List (List UInt8)} (ha : All 128 l) (hl : l.length = s.lasts.length) : ({ s with lasts := l } : DS).Wf :=
  ⟨by rw [hl]; exact h.pos, by rw [hl]; exact h.le, by rw [hl]; exact h.sl, ha, h.ash, by rw [hl]; exact h.aw, h.cut, h.lm⟩
/-- A sector's slice is set. -/
theorem RkAt.setSec {w w' : World} {R : RL} {s : DS} (h : RkAt w R s) {g c i : Nat} {v : Value} {b : List UInt8} {rest : List Value} (e : R.vl = .slice (some ⟨g, 0, none⟩) s.lasts.length c) (hb : Blk w g 32 (R.sv ++ rest)) (hlen : (R.sv ++ rest).length = c * 1) (hc : s.lasts.length ≤ c) (hm : c ≤ maxLen) (hb' : Blk w' g 32 ((R.sv ++ rest).set i v))
    (hi : i < s.lasts.length) (hf : Fr (fun k => k = g) w w') (ho : w.ownsRow 0 5 1 v 128 (bvs b)) (hbl : b.length = 128) : RkAt w' { R with sv := R.sv.set i v } { s with lasts := s.lasts.set i b } := by
  have hsv : R.sv.length = s.lasts.length := h.hs.len
  rw [List.set_append_left _ _ (by omega)] at hb'
  have hS : Secs w (R.sv.set i v) (s.lasts.set i b) := h.hs.set i ho
  refine ⟨setL_wf h.wf (h.wf.al.set i hbl) (List.length_set), h.hd.fr hf (fun e => Blk.ne h.hd hb (by decide) e), ?_, hS.fr hf ?_, ownN_fr h.hw hf (fun k hk e => own_off h.hw hb (by decide) (e ▸ hk)), h.ha, h.hv.fr hf ?_, ownN_fr h.hk hf (fun k hk e => own_off h.hk hb (by decide) (e ▸ hk))⟩
  · show w'.ownsRow 0 32 1 R.vl (s.lasts.set i b).length (R.sv.set i v)
    rw [e, List.length_set]
    exact ownN_of_blk hb' (Nat.zero_le _) hc hm (by rw [← hlen, List.length_append, List.length_append, List.length_set]) (by rw [List.length_set]; omega)
  · intro u hu k hk ek
    obtain ⟨_, cs, hcs⟩ := hS.lt hu hk
    subst ek
    exact Blk.ne hcs hb (by decide) rfl
  · intro u hu k hk ek
    obtain ⟨_, cs, hcs⟩ := h.hv.lt hu hk
    subst ek
    exact Blk.ne hcs hb (by decide) rfl
theorem rplan_size : (Try.prog.info? 74).map (·.size) = some 3 := by kernel_rfl
theorem rwrite_size : (Try.prog.info? 85).map (·.size) = some 2 := by kernel_rfl
theorem rcrash_dead (v : Value) (torn cut : Int) (w : World) (R : RL) (s : DS) (h : RkAt w R s) (hd : s.dead = true) : Calls Try.prog 36 #[.pointer (some ⟨R.gd, 0, none⟩), .agg #[v, .int .i64 torn, .int .i64 cut]] w fun e w' => e = .returned (.int .i64 20) ∧ Fr0 w w' := by
  refine sx_enter (vs := [_, _]) Try.func36 rfl Try.ntmps36 rfl ?_
  refine sx_seq ?_
  refine sx_region ?_
  refine sxl_does (some 3) (wn_none rfl) rfl rfl (fun ρ hρ => does_box 74 (.tmp 1) rfl [v, .int .i64 torn, .int .i64 cut] (by rw [hρ _ _ rfl]; rfl)) ?_
  rintro _ w1 ⟨g3, rfl, hg3, hg3', hb1, hf1⟩
  have c3 := (h.fr0 hf1).c3
  rw [hd] at c3
  refine sxl_y (wn_none rfl) rfl rfl (yp rfl) ?_
  refine sxl_nil ?_
  refine qx_seq ?_
  refine sx_seq ?_
  refine sx_seq ?_
  refine sx_region ?_
  refine sxl_y (wn_none rfl) rfl rfl (yp rfl) ?_
  refine sxl_y (wn_none rfl) rfl rfl (yp rfl) ?_
  refine sxl_y (wn_none rfl) rfl rfl (yp rfl) ?_
  refine sxl_y (wn_none rfl) rfl rfl (y_load rfl rfl (sc rfl) (by assumption)) ?_
  refine sxl_nil ?_
  refine qx_seq ?_
  refine sx_true rfl ?_
  refine sx_seq ?_
  refine sx_region ?_
  refine sxl_y (wn_none rfl) rfl rfl (yp rfl) ?_
  refine sxl_nil ?_
  refine qx_seq ?_
  refine sx_ret ?_
  refine qx_then_ret ?_
  refine qx_ret1 rfl rfl ?_
  exact ⟨rfl, hf1⟩
theorem rcrash_arg (v : Value) (torn cut : Int) (w : World) (R : RL) (s : DS) (h : RkAt w R s) (hd : s.dead = false) (hc : ¬ (0 ≤ cut ∧ cut ≤ 128)) : Calls Try.prog 36 #[.pointer (some ⟨R.gd, 0, none⟩), .agg #[v, .int .i64 torn, .int .i64 cut]] w fun e w' => e = .returned (.int .i64 1) ∧ Fr0 w w' := by
  refine sx_enter (vs := [_, _]) Try.func36 rfl Try.ntmps36 rfl ?_
  refine sx_seq ?_
  refine sx_region ?_
  refine sxl_does (some 3) (wn_none rfl) rfl rfl (fun ρ hρ => does_box 74 (.tmp 1) rfl [v, .int .i64 torn, .int .i64 cut] (by rw [hρ _ _ rfl]; rfl)) ?_
  rintro _ w1 ⟨g3, rfl, hg3, hg3', hb1, hf1⟩
  have c3 := (h.fr0 hf1).c3
  rw [hd] at c3
  have p2 : Cell w1.heap g3 2 (.int .i64 cut) := hb1.c 2 rfl
  by_cases h0 : cut < 0
  · refine sxl_y (wn_none rfl) rfl rfl (yp rfl) ?_
    refine sxl_nil ?_
    refine qx_seq ?_
    refine sx_seq ?_
    refine sx_seq ?_
    refine sx_region ?_
    refine sxl_y (wn_none rfl) rfl rfl (yp rfl) ?_
    refine sxl_y (wn_none rfl) rfl rfl (yp rfl) ?_
    refine sxl_y (wn_none rfl) rfl rfl (yp rfl) ?_
    refine sxl_y (wn_none rfl) rfl rfl (y_load rfl rfl (sc rfl) (by assumption)) ?_
    refine sxl_nil ?_
    refine qx_seq ?_
    refine sx_false rfl ?_
    refine sx_skip ?_
    refine qx_seq ?_
    refine sx_seq ?_
    refine sx_seq ?_
    refine sx_region ?_
    refine sxl_y (wn_none rfl) rfl rfl (yp rfl) ?_
    refine sxl_y (wn_none rfl) rfl rfl (y_load rfl rfl (sc rfl) (by assumption)) ?_
    refine sxl_y (wn_none rfl) rfl rfl (y_lss_t rfl rfl rfl (by omega)) ?_
    refine sxl_y (wn_none rfl) rfl rfl (yp rfl) ?_
    refine sxl_off rfl rfl rfl rfl rfl rfl ?_
    refine sxl_off rfl rfl rfl rfl rfl rfl ?_
    refine sxl_off rfl rfl rfl rfl rfl rfl ?_
    refine sxl_y (wn_none rfl) rfl rfl (yp rfl) ?_
    refine sxl_nil ?_
    refine qx_seq ?_
    refine sx_true rfl ?_
    refine sx_seq ?_
    refine sx_region ?_
    refine sxl_y (wn_none rfl) rfl rfl (yp rfl) ?_
    refine sxl_nil ?_
    refine qx_seq ?_
    refine sx_ret ?_
    refine qx_then_ret ?_
    refine qx_ret1 rfl rfl ?_
    exact ⟨rfl, hf1⟩
  · refine sxl_y (wn_none rfl) rfl rfl (yp rfl) ?_
    refine sxl_nil ?_
    refine qx_seq ?_
    refine sx_seq ?_
    refine sx_seq ?_
    refine sx_region ?_
    refine sxl_y (wn_none rfl) rfl rfl (yp rfl) ?_
    refine sxl_y (wn_none rfl) rfl rfl (yp rfl) ?_
    refine sxl_y (wn_none rfl) rfl rfl (yp rfl) ?_
    refine sxl_y (wn_none rfl) rfl rfl (y_load rfl rfl (sc rfl) (by assumption)) ?_
    refine sxl_nil ?_
    refine qx_seq ?_
    refine sx_false rfl ?_
    refine sx_skip ?_
    refine qx_seq ?_
    refine sx_seq ?_
    refine sx_seq ?_
    refine sx_region ?_
    refine sxl_y (wn_none rfl) rfl rfl (yp rfl) ?_
    refine sxl_y (wn_none rfl) rfl rfl (y_load rfl rfl (sc rfl) (by assumption)) ?_
    refine sxl_y (wn_none rfl) rfl rfl (y_lss_f rfl rfl rfl (by omega)) ?_
    refine sxl_y (wn_none rfl) rfl rfl (yp rfl) ?_
    refine sxl_y (wn_on rfl rfl rfl) rfl rfl (yp rfl) ?_
    refine sxl_y (wn_on rfl rfl rfl) rfl rfl (y_load rfl rfl (sc rfl) (by assumption)) ?_
    refine sxl_y (wn_on rfl rfl rfl) rfl rfl (y_gtr_t rfl rfl rfl (by omega)) ?_
    refine sxl_y (wn_none rfl) rfl rfl (yp rfl) ?_
    refine sxl_nil ?_
    refine qx_seq ?_
    refine sx_true rfl ?_
    refine sx_seq ?_
    refine sx_region ?_
    refine sxl_y (wn_none rfl) rfl rfl (yp rfl) ?_
    refine sxl_nil ?_
    refine qx_seq ?_
    refine sx_ret ?_
    refine qx_then_ret ?_
    refine qx_ret1 rfl rfl ?_
    exact ⟨rfl, hf1⟩
set_option maxHeartbeats 8000000 in
theorem rcrash_ok (A : Option Addr) (c : Nat) (keep : List Bool) (torn : Int) (cut : Nat) (w : World) (R : RL) (s : DS) (h : RkAt w R s) (hd : s.dead = false) (hk : Rd w A keep.length (boolsV keep)) (hkn : 0 < keep.length → ∀ b off, A = some ⟨b, off, none⟩ → ¬ R.own b) (hcut : cut ≤ 128) (hwm : s.waits.length ≤ 1073741824) :
    Calls Try.prog 36 #[.pointer (some ⟨R.gd, 0, none⟩), .agg #[.slice A keep.length c, .int .i64 torn, .int .i64 (cut : Int)]] w fun e w' => ∃ R', e = .returned (.int .i64 0) ∧ RkTo w w' R R' (s.crash keep torn cut) := by
  obtain ⟨wA, wc, ew⟩ := h.vw
  refine sx_enter (vs := [_, _]) Try.func36 rfl Try.ntmps36 rfl ?_
  refine sx_seq ?_
  refine sx_region ?_
  refine sxl_does (some 3) (wn_none rfl) rfl rfl (fun ρ hρ => does_box 74 (.tmp 1) rfl [.slice A keep.length c, .int .i64 torn, .int .i64 (cut : Int)] (by rw [hρ _ _ rfl]; rfl)) ?_
  rintro _ w1 ⟨g3, rfl, hg3, hg3', hb1, hf1⟩
  have c3 := (h.fr0 hf1).c3
  rw [hd] at c3
  have p2 : Cell w1.heap g3 2 (.int .i64 (cut : Int)) := hb1.c 2 rfl
  refine sxl_y (wn_none rfl) rfl rfl (yp rfl) ?_
  refine sxl_nil ?_
  refine qx_seq ?_
  refine sx_seq ?_
  refine sx_seq ?_
  refine sx_region ?_
  refine sxl_y (wn_none rfl) rfl rfl (yp rfl) ?_
  refine sxl_y (wn_none rfl) rfl rfl (yp rfl) ?_
  refine sxl_y (wn_none rfl) rfl rfl (yp rfl) ?_
  refine sxl_y (wn_none rfl) rfl rfl (y_load rfl rfl (sc rfl) (by assumption)) ?_
  refine sxl_nil ?_
  refine qx_seq ?_
  refine sx_false rfl ?_
  refine sx_skip ?_
  refine qx_seq ?_
  refine sx_seq ?_
  refine sx_seq ?_
  refine sx_region ?_
  refine sxl_y (wn_none rfl) rfl rfl (yp rfl) ?_
  refine sxl_y (wn_none rfl) rfl rfl (y_load rfl rfl (sc rfl) (by assumption)) ?_
  refine sxl_y (wn_none rfl) rfl rfl (y_lss_f rfl rfl rfl (by omega)) ?_
  refine sxl_y (wn_none rfl) rfl rfl (yp rfl) ?_
  refine sxl_y (wn_on rfl rfl rfl) rfl rfl (yp rfl) ?_
  refine sxl_y (wn_on rfl rfl rfl) rfl rfl (y_load rfl rfl (sc rfl) (by assumption)) ?_
  refine sxl_y (wn_on rfl rfl rfl) rfl rfl (y_gtr_f rfl rfl rfl (by omega)) ?_
  refine sxl_y (wn_none rfl) rfl rfl (yp rfl) ?_
  refine sxl_nil ?_
  refine qx_seq ?_
  refine sx_false rfl ?_
  refine sx_skip ?_
  refine qx_seq ?_
  refine sx_seq ?_
  refine sx_seq ?_
  refine sx_region ?_
  refine sxl_y (wn_none rfl) rfl rfl (yp rfl) ?_
  refine sxl_nil ?_
  refine qx_seq ?_
  refine sx_block ?_
  refine sx_loop (fun e wr m => ∃ (k : Nat) (sv : List Value) (l : List (List UInt8)), e = [(5, .int .i64 (k : Int)), (3, .pointer (some ⟨g3, 0, none⟩)), (0, .pointer (some ⟨R.gd, 0, none⟩))] ∧ k ≤ s.waits.length ∧ RkAt wr { R with sv := sv } { s with lasts := l } ∧ l.length = s.lasts.length ∧ crashFrom keep torn cut k (s.waits.drop k) l = crashFrom keep torn cut 0 s.waits s.lasts ∧ Blk wr g3 74 [.slice A keep.length c, .int .i64 torn, .int .i64 (cut : Int)] ∧ Fr R.own w wr ∧ (∀ v ∈ sv, ∀ b, v.ownBlock = some b → R.ro b ∨ w.heap.size ≤ b) ∧ m = s.waits.length - k) ⟨0, R.sv, s.lasts, rfl, Nat.zero_le _, h.fr0 hf1, rfl, rfl, hb1, hf1.of0, (fun v hv b hb => .inl (.inl ⟨v, hv, hb⟩)), rfl⟩ ⟨rfl, rfl, rfl, trivial⟩ ?_
  clear hb1 c3 p2 hg3'
  rintro _ wr _ ⟨k, sv, l, rfl, hk', hR, hll, hcr, hb3, hfr, hro, rfl⟩
  have c1 := hR.c1
  have c1 : Cell wr.heap R.gd 1 (.slice wA s.waits.length wc) := by rw [← ew]; exact c1
  by_cases hlt : k < s.waits.length
  · obtain ⟨bw, ow, cw, at_, v, bs, e1, k0, k1, hx, hy, ho⟩ := hR.wcell (k := k) hlt
    have e1 : R.vw = _ := e1
    rw [ew] at e1
    injection e1 with e1 _ e2
    subst e1; subst e2
    have hx : s.waits[k]? = some (at_, bs) := hx
    have hat : at_ < s.lasts.length := (h.wf.aw _ (List.mem_of_getElem? hx)).1
    have hbs : bs.length = 128 := (h.wf.aw _ (List.mem_of_getElem? hx)).2
    have hdrop : s.waits.drop k = (at_, bs) :: s.waits.drop (k + 1) := by
      rw [List.drop_eq_getElem_cons hlt]
      congr 1
      rw [List.getElem?_eq_getElem hlt] at hx
      exact Option.some.inj hx
    rw [hdrop, crashFrom] at hcr
    have hrr : Rd wr (some ⟨bw, ow + k * 2, none⟩) 2 (rrow (at_, v)) := rd_two k0 k1
    refine sx_seq ?_
    refine sx_seq ?_
    refine sx_region ?_
    refine sxl_y (wn_none rfl) rfl rfl (yp rfl) ?_
    refine sxl_y (wn_none rfl) rfl rfl (yp rfl) ?_
    refine sxl_y (wn_none rfl) rfl rfl (yp rfl) ?_
    refine sxl_y (wn_none rfl) rfl rfl (yp rfl) ?_
    refine sxl_y (wn_none rfl) rfl rfl (y_load rfl rfl (sc rfl) (by assumption)) ?_
    refine sxl_y (wn_none rfl) rfl rfl (y_len rfl rfl (sl rfl)) ?_
    refine sxl_y (wn_none rfl) rfl rfl (y_lss_t rfl rfl rfl (by omega)) ?_
    refine sxl_nil ?_
    refine qx_seq ?_
    refine sx_true rfl ?_
    refine sx_skip ?_
    refine qx_seq ?_
    refine sx_seq ?_
    refine sx_block ?_
    refine sx_seq ?_
    refine sx_region ?_
    refine sxl_y (wn_none rfl) rfl rfl (yp rfl) ?_
    refine sxl_y (wn_none rfl) rfl rfl (yp rfl) ?_
    refine sxl_y (wn_none rfl) rfl rfl (yp rfl) ?_
    refine sxl_y (wn_none rfl) rfl rfl (y_load rfl rfl (sc rfl) (by assumption)) ?_
    refine sxl_y (wn_none rfl) rfl rfl (yp rfl) ?_
    refine sxl_y (wn_none rfl) rfl rfl (y_indexN rfl rfl rfl (sl rfl) (by omega)) ?_
    refine sxl_y (wn_none rfl) rfl rfl (y_loadRd rfl rfl hrr Try.underlying85 rfl rwrite_size) ?_
    refine sxl_does (some 6) (wn_none rfl) rfl rfl (fun ρ hρ => does_alloc 85 rfl (.agg #[.int .i64 0, .slice none 0 0]) [.int .i64 0, .slice none 0 0] (by kernel_rfl) rfl) ?_
    rintro _ w2 ⟨g6, rfl, hg6, hg6', hb6, hf2⟩
    refine sxl_does none (wn_none rfl) rfl rfl (fun ρ hρ => does_store 85 (.tmp 6) (.tmp 35) rfl g6 0 85 _ (rrow (at_, v)) (hρ _ _ rfl) (hρ _ _ rfl) hb6 rwrite_size (by simp [rrow]) (by intro u hu; simp only [rrow, List.mem_cons, List.not_mem_nil, or_false] at hu; rcases hu with rfl | rfl; rfl; exact own_one ho)) ?_
    rintro _ w3 ⟨rfl, hb6', hf3⟩
    have hb6' : Blk w3 g6 85 [.int .i64 (at_ : Int), v] := hb6'
    have hF3 : Fr0 wr w3 := hf2.step hf3 (fun b hb e => by omega)
    have hR3 := hR.fr0 hF3
    have hb3 := hb3.fr0 hF3
    have ho3 := ownN_fr ho hF3 (fun _ _ hh => hh)
    have p0 : Cell w3.heap g3 0 (.slice A keep.length c) := hb3.c 0 rfl
    have p1 : Cell w3.heap g3 1 (.int .i64 torn) := hb3.c 1 rfl
    have p2 : Cell w3.heap g3 2 (.int .i64 (cut : Int)) := hb3.c 2 rfl
    have q0 : Cell w3.heap g6 0 (.int .i64 (at_ : Int)) := hb6'.c 0 rfl
    have q1 : Cell w3.heap g6 1 v := hb6'.c 1 rfl
    obtain ⟨gl, cl, rest, el, _, hcl, hml, hbl, hlenl⟩ := ownN_blk hR3.hl hR3.wf.pos
    have el : R.vl = .slice (some ⟨gl, 0, none⟩) l.length cl := el
    have hbl : Blk w3 gl 32 (sv ++ rest) := hbl
    have c0 := hR3.c0
    have c0 : Cell w3.heap R.gd 0 (.slice (some ⟨gl, 0, none⟩) l.length cl) := by rw [← el]; exact c0
    have hsvl : sv.length = l.length := hR3.hs.len
    have hF03 : Fr R.own w w3 := hfr.then0 hF3
    have hz := hfr.size
    have hz1 := hf1.size
    have hz3 := hF3.size
    have hgln : ¬ gl = g3 := fun e => by subst e; exact Blk.ne hbl hb3 (by decide) rfl
    have hatl : at_ < l.length := by omega
    have hbo : ∀ b, R.vl.ownBlock = some b → R.own b := fun b hb => .inr (.inl hb)
    have hglo : R.own gl := hbo gl (by rw [el]; rfl)
    by_cases hkt : (k : Int) = torn
    · have hone : crashOne keep torn cut k (at_, bs) l = l.set at_ (bs.take cut ++ (l.getD at_ []).drop cut) := by unfold crashOne; rw [if_pos hkt]
      rw [hone] at hcr
      obtain ⟨lv, hlv⟩ : ∃ lv, sv[at_]? = some lv := ⟨_, List.getElem?_eq_getElem (by omega)⟩
      obtain ⟨lb, hlb⟩ : ∃ lb, l[at_]? = some lb := ⟨_, List.getElem?_eq_getElem hatl⟩
      have hlo : w3.ownsRow 0 5 1 lv 128 (bvs lb) := hR3.hs.at_ at_ lv lb hlv hlb
      have hlbl : lb.length = 128 := hR3.wf.al.at hlb
      have hgd : l.getD at_ [] = lb := by rw [List.getD_eq_getElem?_getD, hlb]; rfl
      rw [hgd] at hcr
      obtain ⟨vA, vc, hvc, hvcap, hvr, _, _⟩ := ownN_form ho3
      subst hvc
      have clv : Cell w3.heap gl (0 + at_ * 1) lv := hbl.c _ (by rw [Nat.zero_add, Nat.mul_one, List.getElem?_append_left (by omega)]; exact hlv)
      refine sxl_nil ?_
      refine qx_seq ?_
      refine sx_block ?_
      refine sx_seq ?_
      refine sx_region ?_
      refine sxl_y (wn_none rfl) rfl rfl (yp rfl) ?_
      refine sxl_y (wn_none rfl) rfl rfl (yp rfl) ?_
      refine sxl_y (wn_none rfl) rfl rfl (y_load rfl rfl (sc rfl) (by assumption)) ?_
      refine sxl_y (wn_none rfl) rfl rfl (y_eql_t rfl rfl rfl (by omega)) ?_
      refine sxl_y (wn_none rfl) rfl rfl (yp rfl) ?_
      refine sxl_nil ?_
      refine qx_seq ?_
      refine sx_true rfl ?_
      refine sx_seq ?_
      refine sx_region ?_
      refine sxl_does (some 41) (wn_none rfl) rfl rfl (fun ρ hρ => does_slice0 32 5 1 rfl Try.underlying32 (by kernel_rfl)) ?_
      rintro _ w4 ⟨g4, rfl, hg4, hg4', -, hf4, ho4⟩
      have ho4 := ho4 _ (Nat.le_refl _)
      have q1 := q1.fr hf4 (fun hh => hh)
      have p2 := p2.fr hf4 (fun hh => hh)
      refine sxl_y (wn_none rfl) rfl rfl (yp rfl) ?_
      refine sxl_y (wn_none rfl) rfl rfl (y_load rfl rfl (sc rfl) (by assumption)) ?_
      refine sxl_y (wn_none rfl) rfl rfl (yp rfl) ?_
      refine sxl_y (wn_none rfl) rfl rfl (y_load rfl rfl (sc rfl) (by assumption)) ?_
      refine sxl_y (wn_none rfl) rfl rfl (y_sliceTo rfl rfl rfl (sl rfl) (by omega)) ?_
      refine sxl_does (some 47) (wn_none rfl) rfl rfl (fun ρ hρ => does_append (.tmp 41) (.tmp 46) 32 rfl _ 5 (.int .u8 0) 1 Try.underlying32 info_u8 rfl _ 0 [] (hρ _ _ rfl) ho4 vA cut vc (bvs (bs.take cut)) (hρ _ _ rfl) (by
        have := (Rd.takeN (k := cut) (by simpa using hvr) (by omega)).fr0 hf4
        unfold bvs at this ⊢
        rwa [List.map_take]) (bvs_one _) (by unfold maxLen; omega) (by omega) hf4.size) ?_
      rintro v5 w5 ⟨ho5, hg5, hv5⟩
      rw [Nat.zero_add, List.nil_append] at ho5
      have hF5 : Fr0 w3 w5 := hf4.app ho4 (Nat.le_refl _) hg5
      have c05 := c0.fr hF5 (fun hh => hh)
      have q05 := q0.fr hF5 (fun hh => hh)
      have p25 := (hb3.fr0 hF5).c 2 (v := .int .i64 (cut : Int)) rfl
      have clv5 := clv.fr hF5 (fun hh => hh)
      obtain ⟨lA, lc, rfl, hN⟩ := own_form0 hlo
      obtain ⟨_, _, elc, hlc, hlr, _, _⟩ := ownN_form hlo
      injection elc with e1 _ e2
      subst e1; subst e2
      refine sxl_y (wn_none rfl) rfl rfl (yp rfl) ?_
      refine sxl_nil ?_
      refine qx_seq ?_
      refine sx_any 19 (fun w' => Cell w'.heap R.gd 0 (.slice (some ⟨gl, 0, none⟩) l.length cl) ∧ Cell w'.heap g6 0 (.int .i64 (at_ : Int)) ∧ Cell w'.heap g3 2 (.int .i64 (cut : Int)) ∧ Cell w'.heap gl (0 + at_ * 1) (.slice lA 128 lc)) hmix ?_
      have HS : Cell w5.drew.heap R.gd 0 (.slice (some ⟨gl, 0, none⟩) l.length cl) ∧ Cell w5.drew.heap g6 0 (.int .i64 (at_ : Int)) ∧ Cell w5.drew.heap g3 2 (.int .i64 (cut : Int)) ∧ Cell w5.drew.heap gl (0 + at_ * 1) (.slice lA 128 lc) := ⟨c05, q05, p25, clv5⟩
      refine sxo_y 0 19 (by kernel_rfl) (fun c a t v w h => by cases t <;> exact h) (by kernel_rfl) rfl (by kernel_rfl) (by kernel_rfl) rfl (wn_none rfl) rfl rfl HS (fun w' hS' => yp rfl) ?_
      refine sxo_y 1 19 (by kernel_rfl) (fun c a t v w h => by cases t <;> exact h) (by kernel_rfl) rfl (by kernel_rfl) (by kernel_rfl) rfl (wn_none rfl) rfl rfl HS (fun w' hS' => yp rfl) ?_
      refine sxo_y 2 19 (by kernel_rfl) (fun c a t v w h => by cases t <;> exact h) (by kernel_rfl) rfl (by kernel_rfl) (by kernel_rfl) rfl (wn_none rfl) rfl rfl HS (fun w' hS' => yp rfl) ?_
      refine sxo_y 3 19 (by kernel_rfl) (fun c a t v w h => by cases t <;> exact h) (by kernel_rfl) rfl (by kernel_rfl) (by kernel_rfl) rfl (wn_none rfl) rfl rfl HS (fun w' hS' => y_load rfl rfl (sc rfl) (by obtain ⟨s1, s2, s3, s4⟩ := hS'; assumption)) ?_
      refine sxo_y 4 19 (by kernel_rfl) (fun c a t v w h => by cases t <;> exact h) (by kernel_rfl) rfl (by kernel_rfl) (by kernel_rfl) rfl (wn_none rfl) rfl rfl HS (fun w' hS' => yp rfl) ?_
      refine sxo_y 5 19 (by kernel_rfl) (fun c a t v w h => by cases t <;> exact h) (by kernel_rfl) rfl (by kernel_rfl) (by kernel_rfl) rfl (wn_none rfl) rfl rfl HS (fun w' hS' => y_load rfl rfl (sc rfl) (by obtain ⟨s1, s2, s3, s4⟩ := hS'; assumption)) ?_
      refine sxo_y 6 19 (by kernel_rfl) (fun c a t v w h => by cases t <;> exact h) (by kernel_rfl) rfl (by kernel_rfl) (by kernel_rfl) rfl (wn_none rfl) rfl rfl HS (fun w' hS' => yp rfl) ?_
      refine sxo_y 7 19 (by kernel_rfl) (fun c a t v w h => by cases t <;> exact h) (by kernel_rfl) rfl (by kernel_rfl) (by kernel_rfl) rfl (wn_none rfl) rfl rfl HS (fun w' hS' => yp rfl) ?_
      refine sxo_y 8 19 (by kernel_rfl) (fun c a t v w h => by cases t <;> exact h) (by kernel_rfl) rfl (by kernel_rfl) (by kernel_rfl) rfl (wn_none rfl) rfl rfl HS (fun w' hS' => yp rfl) ?_
      refine sxo_y 9 19 (by kernel_rfl) (fun c a t v w h => by cases t <;> exact h) (by kernel_rfl) rfl (by kernel_rfl) (by kernel_rfl) rfl (wn_none rfl) rfl rfl HS (fun w' hS' => yp rfl) ?_
      refine sxo_y 10 19 (by kernel_rfl) (fun c a t v w h => by cases t <;> exact h) (by kernel_rfl) rfl (by kernel_rfl) (by kernel_rfl) rfl (wn_none rfl) rfl rfl HS (fun w' hS' => y_load rfl rfl (sc rfl) (by obtain ⟨s1, s2, s3, s4⟩ := hS'; assumption)) ?_
      refine sxo_y 11 19 (by kernel_rfl) (fun c a t v w h => by cases t <;> exact h) (by kernel_rfl) rfl (by kernel_rfl) (by kernel_rfl) rfl (wn_none rfl) rfl rfl HS (fun w' hS' => yp rfl) ?_
      refine sxo_y 12 19 (by kernel_rfl) (fun c a t v w h => by cases t <;> exact h) (by kernel_rfl) rfl (by kernel_rfl) (by kernel_rfl) rfl (wn_none rfl) rfl rfl HS (fun w' hS' => y_load rfl rfl (sc rfl) (by obtain ⟨s1, s2, s3, s4⟩ := hS'; assumption)) ?_
      refine sxo_y 13 19 (by kernel_rfl) (fun c a t v w h => by cases t <;> exact h) (by kernel_rfl) rfl (by kernel_rfl) (by kernel_rfl) rfl (wn_none rfl) rfl rfl HS (fun w' hS' => y_indexN rfl rfl rfl (sl rfl) (by omega)) ?_
      refine sxo_y 14 19 (by kernel_rfl) (fun c a t v w h => by cases t <;> exact h) (by kernel_rfl) rfl (by kernel_rfl) (by kernel_rfl) rfl (wn_none rfl) rfl rfl HS (fun w' hS' => y_load rfl rfl (sc rfl) (by obtain ⟨s1, s2, s3, s4⟩ := hS'; assumption)) ?_
      refine sxo_y 15 19 (by kernel_rfl) (fun c a t v w h => by cases t <;> exact h) (by kernel_rfl) rfl (by kernel_rfl) (by kernel_rfl) rfl (wn_none rfl) rfl rfl HS (fun w' hS' => yp rfl) ?_
      refine sxo_y 16 19 (by kernel_rfl) (fun c a t v w h => by cases t <;> exact h) (by kernel_rfl) rfl (by kernel_rfl) (by kernel_rfl) rfl (wn_none rfl) rfl rfl HS (fun w' hS' => y_load rfl rfl (sc rfl) (by obtain ⟨s1, s2, s3, s4⟩ := hS'; assumption)) ?_
      refine sxo_y 17 19 (by kernel_rfl) (fun c a t v w h => by cases t <;> exact h) (by kernel_rfl) rfl (by kernel_rfl) (by kernel_rfl) rfl (wn_none rfl) rfl rfl HS (fun w' hS' => y_sliceFrom rfl rfl rfl (sl rfl) (by omega)) ?_
      have hlr6 : Rd w5.drew (if lc = cut then lA else lA.map (·.add (cut * 1))) (128 - cut) (bvs (lb.drop cut)) := by
        have := (Rd.cut (k := cut) (cap := lc) (by simpa using hlr) hcut hlc).fr0 (hF5.drew)
        rw [Nat.mul_one]
        unfold bvs at this ⊢
        rwa [List.map_drop]
      refine sxo_does 18 (some 66) (by kernel_rfl) rfl (wn_none rfl) rfl rfl (fun ρ hρ => does_append (.tmp 54) (.tmp 65) 32 rfl _ 5 (.int .u8 0) 1 Try.underlying32 info_u8 rfl v5 cut (bvs (bs.take cut)) (hρ _ _ rfl) (w := w5.drew) ho5 (if lc = cut then lA else lA.map (·.add (cut * 1))) (128 - cut) (lc - cut) (bvs (lb.drop cut)) (hρ _ _ rfl) hlr6 (bvs_one _) (by unfold maxLen; omega) (by omega) hF5.size) ?_
      rintro v6 w6 ⟨ho6, hg6', hv6⟩
      have hF6 : Fr0 w3 w6 := (hF5.drew).app (w := w5.drew) ho5 (Nat.le_refl _) hg6'
      rw [show cut + (128 - cut) = 128 by omega, ← bvs_append] at ho6
      refine ⟨fun _ => ⟨c0.fr hF6 (fun hh => hh), q0.fr hF6 (fun hh => hh), (hb3.fr0 hF6).c 2 rfl, clv.fr hF6 (fun hh => hh)⟩, ?_⟩
      refine sxo_seq 19 (by kernel_rfl) rfl rfl (by kernel_rfl) ?_
      refine sxl_y (wn_none rfl) rfl rfl (y_indexN rfl rfl rfl (sl rfl) (by omega)) ?_
      refine sxl_does none (wn_none rfl) rfl rfl (fun ρ hρ => does_store1 32 (.tmp 67) (.tmp 66) rfl gl at_ 32 _ v6 (by rw [hρ _ _ rfl]; simp) (hρ _ _ rfl) (own_cells ho6) (hbl.fr0 hF6) (by kernel_rfl) (by rw [List.length_append]; omega) (own_one ho6)) ?_
      rintro _ w7 ⟨rfl, hb7, hf7⟩
      have hR7 := (hR3.fr0 hF6).setSec (b := bs.take cut ++ lb.drop cut) el (hbl.fr0 hF6) hlenl hcl hml hb7 hatl hf7 (own_base ho6 (Nat.zero_le _)) (by rw [List.length_append, List.length_take, List.length_drop]; omega)
      refine sxl_nil ?_
      refine qx_block_normal ?_
      refine qx_block_normal ?_
      refine qx_seq ?_
      refine sx_region ?_
      refine sxl_y (wn_none rfl) rfl rfl (yp rfl) ?_
      refine sxl_y (wn_none rfl) rfl rfl (y_add rfl rfl rfl (by omega)) ?_
      refine sxl_y (wn_none rfl) rfl rfl (yp rfl) ?_
      refine sxl_nil ?_
      exact qx_again [(5, .int .i64 ((k + 1 : Nat) : Int)), (3, .pointer (some ⟨g3, 0, none⟩)), (0, .pointer (some ⟨R.gd, 0, none⟩))] (s.waits.length - (k + 1)) ⟨k + 1, sv.set at_ v6, l.set at_ (bs.take cut ++ lb.drop cut), rfl, hlt, hR7, by rw [List.length_set]; exact hll, hcr, (hb3.fr0 hF6).fr hf7 (fun e => hgln e.symm), (hF03.then0 hF6).step hf7 (fun b _ e => e ▸ hglo), (fun u hu b hb => by
        rcases List.mem_or_eq_of_mem_set hu with h' | h'
        · exact hro u h' b hb
        · subst h'
          have := (ho6.lt b hb).1
          right; omega), rfl⟩ (by omega) ⟨rfl, rfl, rfl, trivial⟩
    · by_cases hkk : keep.getD k false = true
      · have hone : crashOne keep torn cut k (at_, bs) l = l.set at_ bs := by unfold crashOne; rw [if_neg hkt, if_pos hkk]
        rw [hone] at hcr
        have hkl : k < keep.length := by
          rcases Nat.lt_or_ge k keep.length with h' | h'
          · exact h'
          · rw [List.getD_eq_getElem?_getD, List.getElem?_eq_none h'] at hkk; cases hkk
        have hkv : keep[k] = true := by rw [List.getD_eq_getElem?_getD, List.getElem?_eq_getElem hkl] at hkk; exact hkk
        obtain ⟨kb, ko, rfl, u, hu, hcu⟩ := (hk.fr hF03 hkn).at_ hkl
        rw [boolsV, List.getElem?_map, List.getElem?_eq_getElem hkl, hkv] at hu
        obtain rfl : Value.bool true = u := by simpa using hu
        have kc1 : Cell w3.heap kb (ko + k * 1) (.bool true) := by rw [Nat.mul_one]; exact Cell.of hcu
        refine sxl_nil ?_
        refine qx_seq ?_
        refine sx_block ?_
        refine sx_seq ?_
        refine sx_region ?_
        refine sxl_y (wn_none rfl) rfl rfl (yp rfl) ?_
        refine sxl_y (wn_none rfl) rfl rfl (yp rfl) ?_
        refine sxl_y (wn_none rfl) rfl rfl (y_load rfl rfl (sc rfl) (by assumption)) ?_
        refine sxl_y (wn_none rfl) rfl rfl (y_eql_f rfl rfl rfl (by omega)) ?_
        refine sxl_y (wn_none rfl) rfl rfl (yp rfl) ?_
        refine sxl_nil ?_
        refine qx_seq ?_
        refine sx_false rfl ?_
        refine sx_seq ?_
        refine sx_region ?_
        refine sxl_y (wn_none rfl) rfl rfl (yp rfl) ?_
        refine sxl_y (wn_none rfl) rfl rfl (yp rfl) ?_
        refine sxl_y (wn_none rfl) rfl rfl (y_load rfl rfl (sc rfl) (by assumption)) ?_
        refine sxl_y (wn_none rfl) rfl rfl (y_len rfl rfl (sl rfl)) ?_
        refine sxl_y (wn_none rfl) rfl rfl (y_lss_t rfl rfl rfl (by omega)) ?_
        refine sxl_y (wn_none rfl) rfl rfl (yp rfl) ?_
        refine sxl_y (wn_on rfl rfl rfl) rfl rfl (yp rfl) ?_
        refine sxl_y (wn_on rfl rfl rfl) rfl rfl (y_load rfl rfl (sc rfl) (by assumption)) ?_
        refine sxl_y (wn_on rfl rfl rfl) rfl rfl (yp rfl) ?_
        refine sxl_y (wn_on rfl rfl rfl) rfl rfl (y_indexN rfl rfl rfl (sl rfl) (by omega)) ?_
        refine sxl_y (wn_on rfl rfl rfl) rfl rfl (y_load rfl rfl (sc rfl) (by assumption)) ?_
        refine sxl_y (wn_none rfl) rfl rfl (yp rfl) ?_
        refine sxl_y (wn_none rfl) rfl rfl (yp rfl) ?_
        refine sxl_nil ?_
        refine qx_seq ?_
        refine sx_true rfl ?_
        refine sx_tail 9 hmix (by kernel_rfl) ?_
        refine sxs_y (wn_none rfl) rfl rfl (yp rfl) ?_
        refine sxs_y (wn_none rfl) rfl rfl (yp rfl) ?_
        refine sxs_y (wn_none rfl) rfl rfl (yp rfl) ?_
        refine sxs_y (wn_none rfl) rfl rfl (y_load rfl rfl (sc rfl) (by assumption)) ?_
        refine sxs_y (wn_none rfl) rfl rfl (yp rfl) ?_
        refine sxs_y (wn_none rfl) rfl rfl (y_load rfl rfl (sc rfl) (by assumption)) ?_
        refine sxs_y (wn_none rfl) rfl rfl (yp rfl) ?_
        refine sxs_y (wn_none rfl) rfl rfl (y_load rfl rfl (sc rfl) (by assumption)) ?_
        refine sxs_y (wn_none rfl) rfl rfl (y_indexN rfl rfl rfl (sl rfl) (by omega)) ?_
        refine sxs_tail ?_
        refine sxl_does none (wn_none rfl) rfl rfl (fun ρ hρ => does_store1 32 (.tmp 89) (.tmp 88) rfl gl at_ 32 _ v (by rw [hρ _ _ rfl]; simp) (hρ _ _ rfl) (own_cells ho3) hbl.drew (by kernel_rfl) (by rw [List.length_append]; omega) (own_one ho3)) ?_
        rintro _ w7 ⟨rfl, hb7, hf7⟩
        have hf7 := hf7.ofDrew
        have hR7 := hR3.setSec (b := bs) el hbl hlenl hcl hml hb7 hatl hf7 ho3 hbs
        refine sxl_nil ?_
        refine qx_block_normal ?_
        refine qx_block_normal ?_
        refine qx_seq ?_
        refine sx_region ?_
        refine sxl_y (wn_none rfl) rfl rfl (yp rfl) ?_
        refine sxl_y (wn_none rfl) rfl rfl (y_add rfl rfl rfl (by omega)) ?_
        refine sxl_y (wn_none rfl) rfl rfl (yp rfl) ?_
        refine sxl_nil ?_
        exact qx_again [(5, .int .i64 ((k + 1 : Nat) : Int)), (3, .pointer (some ⟨g3, 0, none⟩)), (0, .pointer (some ⟨R.gd, 0, none⟩))] (s.waits.length - (k + 1)) ⟨k + 1, sv.set at_ v, l.set at_ bs, rfl, hlt, hR7, by rw [List.length_set]; exact hll, hcr, hb3.fr hf7 (fun e => hgln e.symm), hF03.step hf7 (fun b _ e => e ▸ hglo), (fun u hu b hb => by
          rcases List.mem_or_eq_of_mem_set hu with h' | h'
          · exact hro u h' b hb
          · subst h'
            exact .inl (.inr (.inl ⟨_, List.mem_of_getElem? hy, hb⟩))), rfl⟩ (by omega) ⟨rfl, rfl, rfl, trivial⟩
      · have hone : crashOne keep torn cut k (at_, bs) l = l := by unfold crashOne; rw [if_neg hkt, if_neg hkk]
        rw [hone] at hcr
        by_cases hkl : k < keep.length
        · have hkv : keep[k] = false := by rw [List.getD_eq_getElem?_getD, List.getElem?_eq_getElem hkl] at hkk; simpa using hkk
          obtain ⟨kb, ko, rfl, u, hu, hcu⟩ := (hk.fr hF03 hkn).at_ hkl
          rw [boolsV, List.getElem?_map, List.getElem?_eq_getElem hkl, hkv] at hu
          obtain rfl : Value.bool false = u := by simpa using hu
          have kc1 : Cell w3.heap kb (ko + k * 1) (.bool false) := by rw [Nat.mul_one]; exact Cell.of hcu
          refine sxl_nil ?_
          refine qx_seq ?_
          refine sx_block ?_
          refine sx_seq ?_
          refine sx_region ?_
          refine sxl_y (wn_none rfl) rfl rfl (yp rfl) ?_
          refine sxl_y (wn_none rfl) rfl rfl (yp rfl) ?_
          refine sxl_y (wn_none rfl) rfl rfl (y_load rfl rfl (sc rfl) (by assumption)) ?_
          refine sxl_y (wn_none rfl) rfl rfl (y_eql_f rfl rfl rfl (by omega)) ?_
          refine sxl_y (wn_none rfl) rfl rfl (yp rfl) ?_
          refine sxl_nil ?_
          refine qx_seq ?_
          refine sx_false rfl ?_
          refine sx_seq ?_
          refine sx_region ?_
          refine sxl_y (wn_none rfl) rfl rfl (yp rfl) ?_
          refine sxl_y (wn_none rfl) rfl rfl (yp rfl) ?_
          refine sxl_y (wn_none rfl) rfl rfl (y_load rfl rfl (sc rfl) (by assumption)) ?_
          refine sxl_y (wn_none rfl) rfl rfl (y_len rfl rfl (sl rfl)) ?_
          refine sxl_y (wn_none rfl) rfl rfl (y_lss_t rfl rfl rfl (by omega)) ?_
          refine sxl_y (wn_none rfl) rfl rfl (yp rfl) ?_
          refine sxl_y (wn_on rfl rfl rfl) rfl rfl (yp rfl) ?_
          refine sxl_y (wn_on rfl rfl rfl) rfl rfl (y_load rfl rfl (sc rfl) (by assumption)) ?_
          refine sxl_y (wn_on rfl rfl rfl) rfl rfl (yp rfl) ?_
          refine sxl_y (wn_on rfl rfl rfl) rfl rfl (y_indexN rfl rfl rfl (sl rfl) (by omega)) ?_
          refine sxl_y (wn_on rfl rfl rfl) rfl rfl (y_load rfl rfl (sc rfl) (by assumption)) ?_
          refine sxl_y (wn_none rfl) rfl rfl (yp rfl) ?_
          refine sxl_y (wn_none rfl) rfl rfl (yp rfl) ?_
          refine sxl_nil ?_
          refine qx_seq ?_
          refine sx_false rfl ?_
          refine sx_skip ?_
          refine qx_block_normal ?_
          refine qx_block_normal ?_
          refine qx_seq ?_
          refine sx_region ?_
          refine sxl_y (wn_none rfl) rfl rfl (yp rfl) ?_
          refine sxl_y (wn_none rfl) rfl rfl (y_add rfl rfl rfl (by omega)) ?_
          refine sxl_y (wn_none rfl) rfl rfl (yp rfl) ?_
          refine sxl_nil ?_
          exact qx_again [(5, .int .i64 ((k + 1 : Nat) : Int)), (3, .pointer (some ⟨g3, 0, none⟩)), (0, .pointer (some ⟨R.gd, 0, none⟩))] (s.waits.length - (k + 1)) ⟨k + 1, sv, l, rfl, hlt, hR3, hll, hcr, hb3, hF03, hro, rfl⟩ (by omega) ⟨rfl, rfl, rfl, trivial⟩
        · refine sxl_nil ?_
          refine qx_seq ?_
          refine sx_block ?_
          refine sx_seq ?_
          refine sx_region ?_
          refine sxl_y (wn_none rfl) rfl rfl (yp rfl) ?_
          refine sxl_y (wn_none rfl) rfl rfl (yp rfl) ?_
          refine sxl_y (wn_none rfl) rfl rfl (y_load rfl rfl (sc rfl) (by assumption)) ?_
          refine sxl_y (wn_none rfl) rfl rfl (y_eql_f rfl rfl rfl (by omega)) ?_
          refine sxl_y (wn_none rfl) rfl rfl (yp rfl) ?_
          refine sxl_nil ?_
          refine qx_seq ?_
          refine sx_false rfl ?_
          refine sx_seq ?_
          refine sx_region ?_
          refine sxl_y (wn_none rfl) rfl rfl (yp rfl) ?_
          refine sxl_y (wn_none rfl) rfl rfl (yp rfl) ?_
          refine sxl_y (wn_none rfl) rfl rfl (y_load rfl rfl (sc rfl) (by assumption)) ?_
          refine sxl_y (wn_none rfl) rfl rfl (y_len rfl rfl (sl rfl)) ?_
          refine sxl_y (wn_none rfl) rfl rfl (y_lss_f rfl rfl rfl (by omega)) ?_
          refine sxl_y (wn_none rfl) rfl rfl (yp rfl) ?_
          refine sxl_off rfl rfl rfl rfl rfl rfl ?_
          refine sxl_off rfl rfl rfl rfl rfl rfl ?_
          refine sxl_off rfl rfl rfl rfl rfl rfl ?_
          refine sxl_off rfl rfl rfl rfl rfl rfl ?_
          refine sxl_off rfl rfl rfl rfl rfl rfl ?_
          refine sxl_y (wn_none rfl) rfl rfl (yp rfl) ?_
          refine sxl_y (wn_none rfl) rfl rfl (yp rfl) ?_
          refine sxl_nil ?_
          refine qx_seq ?_
          refine sx_false rfl ?_
          refine sx_skip ?_
          refine qx_block_normal ?_
          refine qx_block_normal ?_
          refine qx_seq ?_
          refine sx_region ?_
          refine sxl_y (wn_none rfl) rfl rfl (yp rfl) ?_
          refine sxl_y (wn_none rfl) rfl rfl (y_add rfl rfl rfl (by omega)) ?_
          refine sxl_y (wn_none rfl) rfl rfl (yp rfl) ?_
          refine sxl_nil ?_
          exact qx_again [(5, .int .i64 ((k + 1 : Nat) : Int)), (3, .pointer (some ⟨g3, 0, none⟩)), (0, .pointer (some ⟨R.gd, 0, none⟩))] (s.waits.length - (k + 1)) ⟨k + 1, sv, l, rfl, hlt, hR3, hll, hcr, hb3, hF03, hro, rfl⟩ (by omega) ⟨rfl, rfl, rfl, trivial⟩
  · obtain rfl : k = s.waits.length := by omega
    rw [List.drop_length, crashFrom] at hcr
    subst hcr
    refine sx_seq ?_
    refine sx_seq ?_
    refine sx_region ?_
    refine sxl_y (wn_none rfl) rfl rfl (yp rfl) ?_
    refine sxl_y (wn_none rfl) rfl rfl (yp rfl) ?_
    refine sxl_y (wn_none rfl) rfl rfl (yp rfl) ?_
    refine sxl_y (wn_none rfl) rfl rfl (yp rfl) ?_
    refine sxl_y (wn_none rfl) rfl rfl (y_load rfl rfl (sc rfl) (by assumption)) ?_
    refine sxl_y (wn_none rfl) rfl rfl (y_len rfl rfl (sl rfl)) ?_
    refine sxl_y (wn_none rfl) rfl rfl (y_lss_f rfl rfl rfl (by omega)) ?_
    refine sxl_nil ?_
    refine qx_seq ?_
    refine sx_false rfl ?_
    refine sx_exit ?_
    refine qx_then_exit ?_
    refine qx_then_exit ?_
    refine qx_block_hit ?_
    refine qx_seq ?_
    refine sx_seq ?_
    refine sx_region ?_
    refine sxl_y (wn_none rfl) rfl rfl (yp rfl) ?_
    refine sxl_y (wn_none rfl) rfl rfl (yp rfl) ?_
    refine sxl_y (wn_none rfl) rfl rfl (yp rfl) ?_
    refine sxl_does none (wn_none rfl) rfl rfl (fun ρ hρ => does_store1 73 (.tmp 92) (.const (.slice none 0 0)) rfl R.gd 1 76 _ (.slice none 0 0) (hρ _ _ rfl) (hρ _ _ rfl) rfl hR.hd (by kernel_rfl) (by simp) rfl) ?_
    rintro _ w2 ⟨rfl, hb2, hf2⟩
    refine sxl_nil ?_
    refine qx_seq ?_
    refine sx_seq ?_
    refine sx_region ?_
    refine sxl_y (wn_none rfl) rfl rfl (yp rfl) ?_
    refine sxl_y (wn_none rfl) rfl rfl (yp rfl) ?_
    refine sxl_y (wn_none rfl) rfl rfl (yp rfl) ?_
    refine sxl_does none (wn_none rfl) rfl rfl (fun ρ hρ => does_store1 4 (.tmp 95) (.const (.bool true)) rfl R.gd 3 76 _ (.bool true) (hρ _ _ rfl) (hρ _ _ rfl) rfl hb2 (by kernel_rfl) (by simp) rfl) ?_
    rintro _ w3 ⟨rfl, hb4, hf4⟩
    refine sxl_nil ?_
    refine qx_seq ?_
    refine sx_seq ?_
    refine sx_region ?_
    refine sxl_y (wn_none rfl) rfl rfl (yp rfl) ?_
    refine sxl_nil ?_
    refine qx_seq ?_
    refine sx_ret ?_
    refine qx_ret1 rfl rfl ?_
    have hf24 : Fr (fun b => b = R.gd) wr w3 := hf2.trans hf4
    have n1 : ∀ b, RL.ro { R with sv := sv } b → ¬ b = R.gd := fun b hb e => by subst e; exact hR.rnot hR.hd (by decide) hb
    have hcl' : (s.crash keep torn cut).lasts.length = s.lasts.length := crashFrom_length ..
    refine ⟨{ R with sv := sv, vw := .slice none 0 0, wv := [] }, rfl, ⟨⟨DS.crash_wf h.wf hcut, hb4, ?_, ?_, World.ownsRow_nil .., rfl, ⟨rfl, fun i v b hv => by simp at hv⟩, ?_⟩, rfl, ?_, ?_, ?_⟩⟩
    · exact ownN_fr hR.hl hf24 (fun k hk e => own_off hR.hl hR.hd (by decide) (e ▸ hk))
    · exact hR.hs.fr hf24 (fun v hv b hb => n1 b (.inl ⟨v, hv, hb⟩))
    · exact ownN_fr hR.hk hf24 (fun k hk => n1 k (.inr (.inr hk)))
    · exact hfr.step hf24 (fun b _ e => .inl e)
    · rintro b (hb | hb | hb)
      · exact .inl (.inl hb)
      · exact .inl (.inr (.inl hb))
      · cases hb
    · rintro b (⟨v, hv, hb⟩ | ⟨p, hp, _⟩ | hb)
      · exact hro v hv b hb
      · cases hp
      · exact .inl (.inr (.inr hb))
end Go.Proofs.Ytbfeailalhddgaa
