/- The document's disk in memory: what it is, where it lies, how it stays. -/
import Derived.Test.YtbfeailalhddgaaDiskLaw7
namespace Go.Proofs.Ytbfeailalhddgaa
open Go.RowKit

/-- Where the document's disk lies: its rows; the sectors' slices, those that wait. -/
structure RL where
  gd : Nat
  vl : Value
  vw : Value
  kv : Value
  sv : List Value
  wv : List (Nat × Value)
def RL.own (R : RL) (b : Nat) : Prop := b = R.gd ∨ R.vl.ownBlock = some b ∨ R.vw.ownBlock = some b
def RL.ro (R : RL) (b : Nat) : Prop := (∃ v ∈ R.sv, v.ownBlock = some b) ∨ (∃ p ∈ R.wv, p.2.ownBlock = some b) ∨ R.kv.ownBlock = some b
def rrow (p : Nat × Value) : List Value := [.int .i64 (p.1 : Int), p.2]
def flatR (l : List (Nat × Value)) : List Value := (l.map rrow).flatten
theorem all_rrow (l : List (Nat × Value)) : All 2 (l.map rrow) := fun x hx => by obtain ⟨p, _, rfl⟩ := List.mem_map.1 hx; rfl
theorem flatR_length (l : List (Nat × Value)) : (flatR l).length = l.length * 2 := by unfold flatR; rw [flat_length (all_rrow l), List.length_map]
theorem flatR_snoc (l : List (Nat × Value)) (p : Nat × Value) : flatR (l ++ [p]) = flatR l ++ rrow p := by simp [flatR]
/-- Slices that read as sectors. -/
structure Secs (w : World) (vs : List Value) (bs : List (List UInt8)) : Prop where
  len : vs.length = bs.length
  at_ : ∀ (i : Nat) (v : Value) (b : List UInt8), vs[i]? = some v → bs[i]? = some b → w.ownsRow 0 5 1 v 128 (bvs b)
structure RkAt (w : World) (R : RL) (s : DS) : Prop where
  wf : s.Wf
  hd : Blk w R.gd 76 [R.vl, R.vw, .int .i64 (s.done : Int), .bool s.dead, .bool s.fset, .int .i64 (s.left : Int), R.kv, .int .i64 s.torn, .int .i64 (s.cut : Int)]
  hl : w.ownsRow 0 32 1 R.vl s.lasts.length R.sv
  hs : Secs w R.sv s.lasts
  hw : w.ownsRow 0 85 2 R.vw s.waits.length (flatR R.wv)
  ha : R.wv.map (·.1) = s.waits.map (·.1)
  hv : Secs w (R.wv.map (·.2)) (s.waits.map (·.2))
  hk : w.ownsRow 0 4 1 R.kv s.keep.length (boolsV s.keep)
theorem Secs.fr {w w' : World} {vs : List Value} {bs : List (List UInt8)} {S : Nat → Prop} (h : Secs w vs bs) (hf : Fr S w w') (hn : ∀ v ∈ vs, ∀ b, v.ownBlock = some b → ¬ S b) : Secs w' vs bs :=
  ⟨h.len, fun i v b hv hb => ownN_fr (h.at_ i v b hv hb) hf (fun k hk => hn v (List.mem_of_getElem? hv) k hk)⟩
theorem Secs.fr0 {w w' : World} {vs : List Value} {bs : List (List UInt8)} (h : Secs w vs bs) (hf : Fr0 w w') : Secs w' vs bs := h.fr hf (fun _ _ _ _ hh => hh)
theorem Secs.snoc {w : World} {vs : List Value} {bs : List (List UInt8)} (h : Secs w vs bs) {v : Value} {b : List UInt8} (ho : w.ownsRow 0 5 1 v 128 (bvs b)) : Secs w (vs ++ [v]) (bs ++ [b]) := by
  refine ⟨by simp [h.len], fun i u c hu hc => ?_⟩
  by_cases hi : i < vs.length
  · rw [List.getElem?_append_left hi] at hu
    rw [List.getElem?_append_left (by rw [← h.len]; exact hi)] at hc
    exact h.at_ i u c hu hc
  · have hl := (List.getElem?_eq_some_iff.1 hu).1
    obtain rfl : i = vs.length := by simp at hl; omega
    rw [List.getElem?_concat_length] at hu
    rw [h.len, List.getElem?_concat_length] at hc
    simp only [Option.some.injEq] at hu hc
    subst hu; subst hc
    exact ho
theorem Secs.set {w : World} {vs : List Value} {bs : List (List UInt8)} (h : Secs w vs bs) (k : Nat) {v : Value} {b : List UInt8} (ho : w.ownsRow 0 5 1 v 128 (bvs b)) : Secs w (vs.set k v) (bs.set k b) := by
  refine ⟨by simp [h.len], fun i u c hu hc => ?_⟩
  by_cases hi : k = i
  · subst hi
    have hl := (List.getElem?_eq_some_iff.1 hu).1
    rw [List.length_set] at hl
    rw [List.getElem?_set_self hl] at hu
    rw [List.getElem?_set_self (by rw [← h.len]; exact hl)] at hc
    simp only [Option.some.injEq] at hu hc
    subst hu; subst hc
    exact ho
  · rw [List.getElem?_set_ne hi] at hu hc
    exact h.at_ i u c hu hc
theorem Secs.one {w : World} {vs : List Value} {bs : List (List UInt8)} (h : Secs w vs bs) : ∀ u ∈ vs, u.oneCell' = true := by
  intro u hu
  obtain ⟨i, hi⟩ := List.getElem?_of_mem hu
  have hl := (List.getElem?_eq_some_iff.1 hi).1
  exact own_one (h.at_ i u _ hi (List.getElem?_eq_getElem (by rw [← h.len]; exact hl)))
theorem Secs.lt {w : World} {vs : List Value} {bs : List (List UInt8)} (h : Secs w vs bs) {v : Value} (hv : v ∈ vs) {b : Nat} (hb : v.ownBlock = some b) : b < w.heap.size ∧ ∃ cs, Blk w b 5 cs := by
  obtain ⟨i, hi⟩ := List.getElem?_of_mem hv
  have hl := (List.getElem?_eq_some_iff.1 hi).1
  have ho := h.at_ i v _ hi (List.getElem?_eq_getElem (by rw [← h.len]; exact hl))
  exact ⟨(ho.lt b hb).2, own_ty ho hb⟩
section
variable {w w' w'' : World} {R R' R'' : RL} {s s' s'' : DS}
theorem RkAt.fr {S : Nat → Prop} (h : RkAt w R s) (hf : Fr S w w') (ho : ∀ b, R.own b → ¬ S b) (hr : ∀ b, R.ro b → ¬ S b) : RkAt w' R s where
  wf := h.wf
  hd := h.hd.fr hf (ho _ (.inl rfl))
  hl := ownN_fr h.hl hf (fun k hk => ho k (.inr (.inl hk)))
  hs := h.hs.fr hf (fun v hv b hb => hr b (.inl ⟨v, hv, hb⟩))
  hw := ownN_fr h.hw hf (fun k hk => ho k (.inr (.inr hk)))
  ha := h.ha
  hv := h.hv.fr hf (fun v hv b hb => by obtain ⟨p, hp, rfl⟩ := List.mem_map.1 hv; exact hr b (.inr (.inl ⟨p, hp, hb⟩)))
  hk := ownN_fr h.hk hf (fun k hk => hr k (.inr (.inr hk)))
theorem RkAt.fr0 (h : RkAt w R s) (hf : Fr0 w w') : RkAt w' R s := h.fr hf (fun _ _ hh => hh) (fun _ _ hh => hh)
theorem RkAt.oty (h : RkAt w R s) {b : Nat} (hb : R.own b) : ∃ t cs, Blk w b t cs ∧ (t = 76 ∨ t = 32 ∨ t = 85) := by
  rcases hb with rfl | hb | hb
  · exact ⟨_, _, h.hd, .inl rfl⟩
  · obtain ⟨cs, hc⟩ := own_ty h.hl hb; exact ⟨_, cs, hc, .inr (.inl rfl)⟩
  · obtain ⟨cs, hc⟩ := own_ty h.hw hb; exact ⟨_, cs, hc, .inr (.inr rfl)⟩
theorem RkAt.rty (h : RkAt w R s) {b : Nat} (hb : R.ro b) : ∃ t cs, Blk w b t cs ∧ (t = 5 ∨ t = 4) := by
  rcases hb with ⟨v, hv, hb⟩ | ⟨p, hp, hb⟩ | hb
  · obtain ⟨_, cs, hc⟩ := h.hs.lt hv hb; exact ⟨_, cs, hc, .inl rfl⟩
  · obtain ⟨_, cs, hc⟩ := h.hv.lt (List.mem_map.2 ⟨p, hp, rfl⟩) hb; exact ⟨_, cs, hc, .inl rfl⟩
  · obtain ⟨cs, hc⟩ := own_ty h.hk hb; exact ⟨_, cs, hc, .inr rfl⟩
theorem RkAt.olt (h : RkAt w R s) {b : Nat} (hb : R.own b) : b < w.heap.size := let ⟨_, _, hc, _⟩ := h.oty hb; hc.lt
theorem RkAt.rlt (h : RkAt w R s) {b : Nat} (hb : R.ro b) : b < w.heap.size := let ⟨_, _, hc, _⟩ := h.rty hb; hc.lt
theorem RkAt.onot (h : RkAt w R s) {g : Nat} {t : TypeId} {cs : List Value} (hb : Blk w g t cs) (ht : t ≠ 76 ∧ t ≠ 32 ∧ t ≠ 85) : ¬ R.own g := by
  intro hg
  obtain ⟨t', cs', hb', e⟩ := h.oty hg
  rcases e with rfl | rfl | rfl
  · exact Blk.ne hb hb' ht.1 rfl
  · exact Blk.ne hb hb' ht.2.1 rfl
  · exact Blk.ne hb hb' ht.2.2 rfl
theorem RkAt.rnot (h : RkAt w R s) {g : Nat} {t : TypeId} {cs : List Value} (hb : Blk w g t cs) (ht : t ≠ 5 ∧ t ≠ 4) : ¬ R.ro g := by
  intro hg
  obtain ⟨t', cs', hb', e⟩ := h.rty hg
  rcases e with rfl | rfl
  · exact Blk.ne hb hb' ht.1 rfl
  · exact Blk.ne hb hb' ht.2 rfl
/-- What an operation on the document's disk does. -/
structure RkTo (w w' : World) (R R' : RL) (s' : DS) : Prop where
  rk : RkAt w' R' s'
  gd : R'.gd = R.gd
  fr : Fr R.own w w'
  bo : ∀ b, R'.own b → R.own b ∨ w.heap.size ≤ b
  br : ∀ b, R'.ro b → R.ro b ∨ w.heap.size ≤ b
theorem RkTo.trans (h : RkTo w w' R R' s') (h' : RkTo w' w'' R' R'' s'') : RkTo w w'' R R'' s'' where
  rk := h'.rk
  gd := h'.gd.trans h.gd
  fr := h.fr.step h'.fr (fun b hb hh => by
    rcases h.bo b hh with h1 | h1
    · exact h1
    · omega)
  bo := fun b hb => by
    have := h.fr.size
    rcases h'.bo b hb with h1 | h1
    · exact h.bo b h1
    · right; omega
  br := fun b hb => by
    have := h.fr.size
    rcases h'.br b hb with h1 | h1
    · exact h.br b h1
    · right; omega
theorem RkTo.of0 (h : RkAt w R s) (hf : Fr0 w w') : RkTo w w' R R s := ⟨h.fr0 hf, rfl, hf.of0, fun _ hb => .inl hb, fun _ hb => .inl hb⟩
/-- Only the disk's own cells were written. -/
theorem RkAt.upd (h : RkAt w R s) (hwf : s'.Wf) (hb : Blk w' R.gd 76 [R.vl, R.vw, .int .i64 (s'.done : Int), .bool s'.dead, .bool s'.fset, .int .i64 (s'.left : Int), R.kv, .int .i64 s'.torn, .int .i64 (s'.cut : Int)]) (hf : Fr (fun b => b = R.gd) w w') (hl : s'.lasts = s.lasts) (hw : s'.waits = s.waits) (hk : s'.keep = s.keep) : RkTo w w' R R s' := by
  have n1 : ∀ b, R.ro b → ¬ b = R.gd := fun b hb e => by subst e; exact h.rnot h.hd (by decide) hb
  have n2 : ∀ k, R.vl.ownBlock = some k → ¬ k = R.gd := fun k hk e => by subst e; exact own_off h.hl h.hd (by decide) hk
  have n3 : ∀ k, R.vw.ownBlock = some k → ¬ k = R.gd := fun k hk e => by subst e; exact own_off h.hw h.hd (by decide) hk
  refine ⟨⟨hwf, hb, by rw [hl]; exact ownN_fr h.hl hf n2, by rw [hl]; exact h.hs.fr hf (fun v hv b hb => n1 b (.inl ⟨v, hv, hb⟩)), by rw [hw]; exact ownN_fr h.hw hf n3, by rw [hw]; exact h.ha, by rw [hw]; exact h.hv.fr hf (fun v hv b hb => by obtain ⟨p, hp, rfl⟩ := List.mem_map.1 hv; exact n1 b (.inr (.inl ⟨p, hp, hb⟩))), by rw [hk]; exact ownN_fr h.hk hf (fun k hk => n1 k (.inr (.inr hk)))⟩, rfl, hf.mono (fun b _ e => .inl e), fun _ hb => .inl hb, fun _ hb => .inl hb⟩
theorem RkAt.c0 (h : RkAt w R s) : Cell w.heap R.gd 0 R.vl := h.hd.c 0 rfl
theorem RkAt.c1 (h : RkAt w R s) : Cell w.heap R.gd 1 R.vw := h.hd.c 1 rfl
theorem RkAt.c2 (h : RkAt w R s) : Cell w.heap R.gd 2 (.int .i64 (s.done : Int)) := h.hd.c 2 rfl
theorem RkAt.c3 (h : RkAt w R s) : Cell w.heap R.gd 3 (.bool s.dead) := h.hd.c 3 rfl
theorem RkAt.c4 (h : RkAt w R s) : Cell w.heap R.gd 4 (.bool s.fset) := h.hd.c 4 rfl
theorem RkAt.c5 (h : RkAt w R s) : Cell w.heap R.gd 5 (.int .i64 (s.left : Int)) := h.hd.c 5 rfl
theorem RkAt.vl (h : RkAt w R s) : ∃ A c, R.vl = .slice A s.lasts.length c ∧ (0 < s.lasts.length → ∃ g, A = some ⟨g, 0, none⟩) := by
  rcases h.hl.2 with ⟨e, h0⟩ | ⟨g, cap, cur, e, _⟩
  · have := h.wf.pos; omega
  · exact ⟨_, _, e, fun _ => ⟨g, rfl⟩⟩
theorem RkAt.vw (h : RkAt w R s) : ∃ A c, R.vw = .slice A s.waits.length c := by
  obtain ⟨A, c, e, _⟩ := ownN_form h.hw
  exact ⟨A, c, e⟩
end
/-! ### The small ones -/
theorem rlen_ok (w : World) (R : RL) (s : DS) (h : RkAt w R s) : Calls Try.prog 40 #[.pointer (some ⟨R.gd, 0, none⟩)] w fun e w' => e = .returned (.int .i64 (s.lasts.length : Int)) ∧ w = w' := by
  obtain ⟨A, c, e, _⟩ := h.vl
  have c0 := h.c0
  rw [e] at c0
  refine sx_enter (vs := [_]) Try.func40 rfl Try.ntmps40 rfl ?_
  refine sx_seq ?_
  refine sx_region ?_
  refine sxl_y (wn_none rfl) rfl rfl (yp rfl) ?_
  refine sxl_nil ?_
  refine qx_seq ?_
  refine sx_seq ?_
  refine sx_region ?_
  refine sxl_y (wn_none rfl) rfl rfl (yp rfl) ?_
  refine sxl_y (wn_none rfl) rfl rfl (yp rfl) ?_
  refine sxl_y (wn_none rfl) rfl rfl (yp rfl) ?_
  refine sxl_y (wn_none rfl) rfl rfl (y_load rfl rfl (sc rfl) (by assumption)) ?_
  refine sxl_y (wn_none rfl) rfl rfl (y_len rfl rfl (sl rfl)) ?_
  refine sxl_y (wn_none rfl) rfl rfl (yp rfl) ?_
  refine sxl_nil ?_
  refine qx_seq ?_
  refine sx_ret ?_
  refine qx_ret1 rfl rfl ?_
  exact ⟨rfl, rfl⟩
theorem rwaits_ok (w : World) (R : RL) (s : DS) (h : RkAt w R s) : Calls Try.prog 41 #[.pointer (some ⟨R.gd, 0, none⟩)] w fun e w' => e = .returned (.int .i64 (s.waits.length : Int)) ∧ w = w' := by
  obtain ⟨A, c, e⟩ := h.vw
  have c1 := h.c1
  rw [e] at c1
  refine sx_enter (vs := [_]) Try.func41 rfl Try.ntmps41 rfl ?_
  refine sx_seq ?_
  refine sx_region ?_
  refine sxl_y (wn_none rfl) rfl rfl (yp rfl) ?_
  refine sxl_nil ?_
  refine qx_seq ?_
  refine sx_seq ?_
  refine sx_region ?_
  refine sxl_y (wn_none rfl) rfl rfl (yp rfl) ?_
  refine sxl_y (wn_none rfl) rfl rfl (yp rfl) ?_
  refine sxl_y (wn_none rfl) rfl rfl (yp rfl) ?_
  refine sxl_y (wn_none rfl) rfl rfl (y_load rfl rfl (sc rfl) (by assumption)) ?_
  refine sxl_y (wn_none rfl) rfl rfl (y_len rfl rfl (sl rfl)) ?_
  refine sxl_y (wn_none rfl) rfl rfl (yp rfl) ?_
  refine sxl_nil ?_
  refine qx_seq ?_
  refine sx_ret ?_
  refine qx_ret1 rfl rfl ?_
  exact ⟨rfl, rfl⟩
theorem due_ok (w : World) (R : RL) (s : DS) (h : RkAt w R s) : Calls Try.prog 44 #[.pointer (some ⟨R.gd, 0, none⟩)] w fun e w' => e = .returned (.bool s.due) ∧ RkTo w w' R R s.burnt := by
  have c4 := h.c4
  have c5 := h.c5
  have hlm := h.wf.lm
  refine sx_enter (vs := [_]) Try.func44 rfl Try.ntmps44 rfl ?_
  cases hf : s.fset with
  | false =>
    rw [hf] at c4
    refine sx_seq ?_
    refine sx_region ?_
    refine sxl_y (wn_none rfl) rfl rfl (yp rfl) ?_
    refine sxl_nil ?_
    refine qx_seq ?_
    refine sx_seq ?_
    refine sx_seq ?_
    refine sx_region ?_
    refine sxl_y (wn_none rfl) rfl rfl (yp rfl) ?_
    refine sxl_y (wn_none rfl) rfl rfl (yp rfl) ?_
    refine sxl_y (wn_none rfl) rfl rfl (yp rfl) ?_
    refine sxl_y (wn_none rfl) rfl rfl (y_load rfl rfl (sc rfl) (by assumption)) ?_
    refine sxl_y (wn_none rfl) rfl rfl (yp rfl) ?_
    refine sxl_nil ?_
    refine qx_seq ?_
    refine sx_true rfl ?_
    refine sx_seq ?_
    refine sx_region ?_
    refine sxl_y (wn_none rfl) rfl rfl (yp rfl) ?_
    refine sxl_nil ?_
    refine qx_seq ?_
    refine sx_ret ?_
    refine qx_then_ret ?_
    refine qx_ret1 rfl rfl ?_
    have e : s.burnt = s := by simp [DS.burnt, hf]
    rw [e]
    exact ⟨by simp [DS.due, hf], RkTo.of0 h Fr.refl⟩
  | true =>
    rw [hf] at c4
    by_cases hl : s.left = 0
    · refine sx_seq ?_
      refine sx_region ?_
      refine sxl_y (wn_none rfl) rfl rfl (yp rfl) ?_
      refine sxl_nil ?_
      refine qx_seq ?_
      refine sx_seq ?_
      refine sx_seq ?_
      refine sx_region ?_
      refine sxl_y (wn_none rfl) rfl rfl (yp rfl) ?_
      refine sxl_y (wn_none rfl) rfl rfl (yp rfl) ?_
      refine sxl_y (wn_none rfl) rfl rfl (yp rfl) ?_
      refine sxl_y (wn_none rfl) rfl rfl (y_load rfl rfl (sc rfl) (by assumption)) ?_
      refine sxl_y (wn_none rfl) rfl rfl (yp rfl) ?_
      refine sxl_nil ?_
      refine qx_seq ?_
      refine sx_false rfl ?_
      refine sx_skip ?_
      refine qx_seq ?_
      refine sx_seq ?_
      refine sx_seq ?_
      refine sx_region ?_
      refine sxl_y (wn_none rfl) rfl rfl (yp rfl) ?_
      refine sxl_y (wn_none rfl) rfl rfl (yp rfl) ?_
      refine sxl_y (wn_none rfl) rfl rfl (yp rfl) ?_
      refine sxl_y (wn_none rfl) rfl rfl (y_load rfl rfl (sc rfl) (by assumption)) ?_
      refine sxl_y (wn_none rfl) rfl rfl (y_eql_t rfl rfl rfl (by omega)) ?_
      refine sxl_nil ?_
      refine qx_seq ?_
      refine sx_true rfl ?_
      refine sx_seq ?_
      refine sx_region ?_
      refine sxl_y (wn_none rfl) rfl rfl (yp rfl) ?_
      refine sxl_nil ?_
      refine qx_seq ?_
      refine sx_ret ?_
      refine qx_then_ret ?_
      refine qx_ret1 rfl rfl ?_
      have e : s.burnt = s := by simp [DS.burnt, hl]
      rw [e]
      exact ⟨by simp [DS.due, hf, hl], RkTo.of0 h Fr.refl⟩
    · refine sx_seq ?_
      refine sx_region ?_
      refine sxl_y (wn_none rfl) rfl rfl (yp rfl) ?_
      refine sxl_nil ?_
      refine qx_seq ?_
      refine sx_seq ?_
      refine sx_seq ?_
      refine sx_region ?_
      refine sxl_y (wn_none rfl) rfl rfl (yp rfl) ?_
      refine sxl_y (wn_none rfl) rfl rfl (yp rfl) ?_
      refine sxl_y (wn_none rfl) rfl rfl (yp rfl) ?_
      refine sxl_y (wn_none rfl) rfl rfl (y_load rfl rfl (sc rfl) (by assumption)) ?_
      refine sxl_y (wn_none rfl) rfl rfl (yp rfl) ?_
      refine sxl_nil ?_
      refine qx_seq ?_
      refine sx_false rfl ?_
      refine sx_skip ?_
      refine qx_seq ?_
      refine sx_seq ?_
      refine sx_seq ?_
      refine sx_region ?_
      refine sxl_y (wn_none rfl) rfl rfl (yp rfl) ?_
      refine sxl_y (wn_none rfl) rfl rfl (yp rfl) ?_
      refine sxl_y (wn_none rfl) rfl rfl (yp rfl) ?_
      refine sxl_y (wn_none rfl) rfl rfl (y_load rfl rfl (sc rfl) (by assumption)) ?_
      refine sxl_y (wn_none rfl) rfl rfl (y_eql_f rfl rfl rfl (by omega)) ?_
      refine sxl_nil ?_
      refine qx_seq ?_
      refine sx_false rfl ?_
      refine sx_skip ?_
      refine qx_seq ?_
      refine sx_seq ?_
      refine sx_region ?_
      refine sxl_y (wn_none rfl) rfl rfl (yp rfl) ?_
      refine sxl_y (wn_none rfl) rfl rfl (yp rfl) ?_
      refine sxl_y (wn_none rfl) rfl rfl (yp rfl) ?_
      refine sxl_y (wn_none rfl) rfl rfl (y_load rfl rfl (sc rfl) (by assumption)) ?_
      refine sxl_y (wn_none rfl) rfl rfl (y_sub rfl rfl rfl (by omega)) ?_
      refine sxl_y (wn_none rfl) rfl rfl (yp rfl) ?_
      refine sxl_y (wn_none rfl) rfl rfl (yp rfl) ?_
      refine sxl_does none (wn_none rfl) rfl rfl (fun ρ hρ => does_store1 3 (.tmp 19) (.tmp 17) rfl R.gd 5 76 _ (.int .i64 ((s.left : Int) - 1)) (hρ _ _ rfl) (hρ _ _ rfl) rfl h.hd (by kernel_rfl) (by simp) rfl) ?_
      rintro _ w2 ⟨rfl, hb2, hf2⟩
      refine sxl_nil ?_
      refine qx_seq ?_
      refine sx_seq ?_
      refine sx_region ?_
      refine sxl_y (wn_none rfl) rfl rfl (yp rfl) ?_
      refine sxl_nil ?_
      refine qx_seq ?_
      refine sx_ret ?_
      refine qx_ret1 rfl rfl ?_
      have e : s.burnt = { s with left := s.left - 1 } := by simp [DS.burnt, hf, hl]
      refine ⟨by simp [DS.due, hf, hl], ?_⟩
      refine h.upd (DS.burnt_wf h.wf) ?_ hf2 (by rw [e]) (by rw [e]) (by rw [e])
      rw [e]
      have e2 : (s.left : Int) - 1 = ((s.left - 1 : Nat) : Int) := by omega
      rw [e2] at hb2
      exact hb2
end Go.Proofs.Ytbfeailalhddgaa
