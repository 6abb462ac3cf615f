/- A pager writes a meta; the pages of a disk are counted. No condition. -/
import Derived.Test.YthdlljlcffokbaaDoorZb2
import Derived.Test.YthdlljlcffokbaaDoorZb1
import Derived.Test.YthdlljlcffokbaaDoorProg
import Derived.WalkSpells
import Derived.ArgAppend
import Derived.Lib.SlBytesConst
namespace Go.Proofs.YthdlljlcffokbaaDoor
open Go.RowKit

def DS.reopen (s : DS) : DS := { lasts := s.lasts, shows := s.lasts, waits := [], done := 0, dead := false, fset := false, left := 0, keep := [], torn := 0, cut := 0 }
end Go.Proofs.YthdlljlcffokbaaDoor
namespace Go.Proofs.YthdlljlcffokbaaDoor
open Go.RowKit

/-- A pager, plainly. -/
structure PS where
  pages : Nat
  seq : Int
  root : Int
  st : Int → Int
  dead : Bool
/-- Where it lies: its block, its map, its disk. -/
structure PL where
  gp : Nat
  gm : Nat
  L : DL
def PL.blocks (Q : PL) (b : Nat) : Prop := b = Q.gp ∨ b = Q.gm ∨ Q.L.blocks b
def PS.cells (p : PS) (gd gm : Nat) : List Value := [.pointer (some ⟨gd, 0, none⟩), .int .i64 (p.pages : Int), .int .i64 p.seq, .int .i64 p.root, .map (some gm), .bool p.dead]
/-- The block is a map in which these numbers stand; what does not stand there is nought. -/
def Stt (w : World) (g : Nat) (s : Int → Int) : Prop := ∃ f : Int → Option Int, Mi w g (fun k => (f k).map ik) ∧ ∀ k, s k = (f k).getD 0
theorem Stt.lt {w : World} {g : Nat} {s : Int → Int} (h : Stt w g s) : g < w.heap.size := by obtain ⟨f, h, _⟩ := h; exact h.lt
theorem Stt.fr {S : Nat → Prop} {w w' : World} {g : Nat} {s : Int → Int} (h : Stt w g s) (hf : Fr S w w') (hn : ¬ S g) : Stt w' g s := by
  obtain ⟨f, h, e⟩ := h; exact ⟨f, h.fr hf hn, e⟩
theorem Stt.ext {w : World} {g : Nat} {s s' : Int → Int} (h : Stt w g s) (he : ∀ k, s' k = s k) : Stt w g s' := by
  obtain ⟨f, h, e⟩ := h; exact ⟨f, h, fun k => (he k).trans (e k)⟩
theorem Stt.new {w : World} {g : Nat} (h : Mi w g (fun _ => none)) : Stt w g (fun _ => 0) := ⟨fun _ => none, h, fun _ => rfl⟩
def updS (s : Int → Int) (k v : Int) : Int → Int := fun x => if x = k then v else s x
theorem upd_map (f : Int → Option Int) (k v : Int) : upd (fun k => (f k).map ik) k (ik v) = fun x => ((if x = k then some v else f x).map ik) := by
  funext x; unfold upd; by_cases h : x = k <;> simp [h]
theorem int_zero : (Tryd.prog.info? 3).map (·.zero) = some (some (.int .i64 0)) := by kernel_rfl
theorem blk_map_ne {w : World} {g g' : Nat} {t : TypeId} {cs : List Value} {s : Int → Int} (h : Blk w g t cs) (h' : Stt w g' s) : g ≠ g' := by
  rintro rfl
  obtain ⟨f, ⟨es, cl, hm, _⟩, _⟩ := h'
  unfold Blk at h
  rw [hm] at h
  cases h
section
variable {e : Env} {w : World} {o : Oper}
theorem y_stt {x i : Operand} {g : Nat} {k : Int} {s : Int → Int} (ho : o.op = .lookup 80 x i false) (hx : ev e x = some (.map (some g))) (hi : ev e i = some (.int .i64 k)) (h : Stt w g s) : Y Tryd.prog e o w (.int .i64 (s k)) := by
  obtain ⟨f, hM, hs⟩ := h
  have := y_lookI (ok := false) ho hx hi Tryd.underlying80 Tryd.underlying3 int_zero hM
  rw [hs k]
  cases hf : f k with
  | none => rw [hf] at this; exact this
  | some v => rw [hf] at this; exact this
theorem does_stt {ρ : Operand → Value} {mp i x : Operand} {g : Nat} {k v : Int} {s : Int → Int} (ho : o.op = .mapUpdate 80 mp i x) (hm : ρ mp = .map (some g)) (hi : ρ i = .int .i64 k) (hx : ρ x = .int .i64 v) (hM : Stt w g s) :
    Does Tryd.prog ρ o w fun u w' => u = undef ∧ Fr (fun b => b = g) w w' ∧ Stt w' g (updS s k v) := by
  obtain ⟨f, hM, hs⟩ := hM
  refine (does_updI ho hm hi hx Tryd.underlying80 Tryd.underlying3 hM).mono fun u w' ⟨h1, h2, h3⟩ => ⟨h1, h2, fun x => if x = k then some v else f x, ?_, fun x => ?_⟩
  · rw [← upd_map]; exact h3
  · unfold updS; by_cases hx : x = k <;> simp [hx, hs]
theorem does_mapS {ρ : Operand → Value} (ho : o.op = .makeMap 80 none) : Does Tryd.prog ρ o w fun v w' => ∃ g, v = .map (some g) ∧ w.heap.size ≤ g ∧ g < w'.heap.size ∧ Stt w' g (fun _ => 0) ∧ Fr0 w w' :=
  (does_mapI ho).mono fun _ _ ⟨g, h1, h2, h3, h4, h5⟩ => ⟨g, h1, h2, h3, .new h4, h5⟩
end
/-- The pager stands so. -/
structure PgAt (w : World) (Q : PL) (p : PS) (s : DS) : Prop where
  dk : DkAt w Q.L s
  hd : Blk w Q.gp 82 (p.cells Q.L.gd Q.gm)
  hm : Stt w Q.gm p.st
  kp : 0 < s.keep.length → ∀ b off, Q.L.kA = some ⟨b, off, none⟩ → b ≠ Q.gp
section
variable {w w' : World} {Q : PL} {p : PS} {s : DS}
theorem DkAt.notCells {L : DL} (h : DkAt w L s) {g : Nat} {S : Int → Int} (hm : Stt w g S) : ¬ L.blocks g := by
  intro hb
  rcases hb with rfl | hb | hb | hb
  · exact blk_map_ne h.hd hm rfl
  · obtain ⟨cs, hc⟩ := ownN_type h.hl hb; exact blk_map_ne hc hm rfl
  · obtain ⟨cs, hc⟩ := ownN_type h.hs hb; exact blk_map_ne hc hm rfl
  · obtain ⟨cs, hc⟩ := ownN_type h.hw hb; exact blk_map_ne hc hm rfl
theorem DkAt.notPg {L : DL} (h : DkAt w L s) {g : Nat} {cs : List Value} (hm : Blk w g 82 cs) : ¬ L.blocks g := by
  intro hb
  rcases hb with rfl | hb | hb | hb
  · exact h.hd.ne hm (by decide) rfl
  · obtain ⟨cs, hc⟩ := ownN_type h.hl hb; exact hc.ne hm (by decide) rfl
  · obtain ⟨cs, hc⟩ := ownN_type h.hs hb; exact hc.ne hm (by decide) rfl
  · obtain ⟨cs, hc⟩ := ownN_type h.hw hb; exact hc.ne hm (by decide) rfl
theorem PgAt.gpL (h : PgAt w Q p s) : ¬ Q.L.blocks Q.gp := h.dk.notPg h.hd
theorem PgAt.gmL (h : PgAt w Q p s) : ¬ Q.L.blocks Q.gm := h.dk.notCells h.hm
theorem PgAt.ne (h : PgAt w Q p s) : Q.gp ≠ Q.gm := blk_map_ne h.hd h.hm
theorem PgAt.lt (h : PgAt w Q p s) {b : Nat} (hb : Q.blocks b) : b < w.heap.size := by
  rcases hb with rfl | rfl | hb
  · exact h.hd.lt
  · exact h.hm.lt
  · exact h.dk.lt hb
/-- The keep slice of a fuse lies in no map. -/
theorem DkAt.keepM {L : DL} (h : DkAt w L s) {g : Nat} {S : Int → Int} (hm : Stt w g S) (hk : 0 < s.keep.length) : ∀ b off, L.kA = some ⟨b, off, none⟩ → b ≠ g := by
  rintro b off e rfl
  obtain ⟨b', off', e', hc⟩ := h.hk.2 hk
  rw [e] at e'
  injection e' with e'; injection e' with e1 e2 _; subst e1; subst e2
  have hlen : 0 < (boolsV s.keep).length := by simpa [boolsV] using hk
  have := hc 0 _ (List.getElem?_eq_getElem hlen)
  obtain ⟨f, ⟨es, cl, hm, _⟩, _⟩ := hm
  simp [World.cell?, hm] at this
theorem PgAt.fr0 (h : PgAt w Q p s) (hf : Fr0 w w') : PgAt w' Q p s := ⟨h.dk.fr0 hf, h.hd.fr hf (fun hh => hh), h.hm.fr hf (fun hh => hh), h.kp⟩
theorem PgAt.c0 (h : PgAt w Q p s) : Cell w.heap Q.gp 0 (.pointer (some ⟨Q.L.gd, 0, none⟩)) := h.hd.c 0 rfl
theorem PgAt.c1 (h : PgAt w Q p s) : Cell w.heap Q.gp 1 (.int .i64 (p.pages : Int)) := h.hd.c 1 rfl
theorem PgAt.c2 (h : PgAt w Q p s) : Cell w.heap Q.gp 2 (.int .i64 p.seq) := h.hd.c 2 rfl
theorem PgAt.c3 (h : PgAt w Q p s) : Cell w.heap Q.gp 3 (.int .i64 p.root) := h.hd.c 3 rfl
theorem PgAt.c4 (h : PgAt w Q p s) : Cell w.heap Q.gp 4 (.map (some Q.gm)) := h.hd.c 4 rfl
theorem PgAt.c5 (h : PgAt w Q p s) : Cell w.heap Q.gp 5 (.bool p.dead) := h.hd.c 5 rfl
end
/-- A step of the pager. -/
structure PgTo (w w' : World) (Q Q' : PL) (p' : PS) (s' : DS) : Prop where
  pg : PgAt w' Q' p' s'
  gp : Q'.gp = Q.gp
  gd : Q'.L.gd = Q.L.gd
  fr : Fr Q.blocks w w'
  bl : ∀ b, Q'.blocks b → Q.blocks b ∨ w.heap.size ≤ b
  kA : Q'.L.kA = Q.L.kA
theorem PgTo.trans {w w1 w2 : World} {Q Q1 Q2 : PL} {p1 p2 : PS} {s1 s2 : DS} (h : PgTo w w1 Q Q1 p1 s1) (h' : PgTo w1 w2 Q1 Q2 p2 s2) : PgTo w w2 Q Q2 p2 s2 where
  pg := h'.pg
  gp := h'.gp.trans h.gp
  gd := h'.gd.trans h.gd
  fr := h.fr.step h'.fr (fun b hb hl => (h.bl b hl).resolve_right (by omega))
  bl := fun b hb => by
    rcases h'.bl b hb with hb | hb
    · exact h.bl b hb
    · exact .inr (Nat.le_trans h.fr.size hb)
  kA := h'.kA.trans h.kA
theorem PgTo.refl {w w' : World} {Q : PL} {p : PS} {s : DS} (h : PgAt w Q p s) (hf : Fr0 w w') : PgTo w w' Q Q p s := ⟨h.fr0 hf, rfl, rfl, Fr.of0 hf, fun _ hb => .inl hb, rfl⟩
theorem PgTo.then0 {w w1 w' : World} {Q Q1 : PL} {p : PS} {s : DS} (h : PgTo w w1 Q Q1 p s) (hf : Fr0 w1 w') : PgTo w w' Q Q1 p s := h.trans (.refl h.pg hf)
/-- The map alone was written. -/
theorem PgTo.map {w w' : World} {Q : PL} {p : PS} {s : DS} (h : PgAt w Q p s) {st : Int → Int} (hf : Fr (fun b => b = Q.gm) w w') (hm : Stt w' Q.gm st) : PgTo w w' Q Q { p with st := st } s where
  pg := ⟨h.dk.fr hf (fun _ hb e => h.gmL (e ▸ hb)) (fun hk => h.dk.keepM h.hm hk), h.hd.fr hf h.ne, hm, h.kp⟩
  gp := rfl
  gd := rfl
  fr := hf.mono (fun _ _ e => .inr (.inl e))
  bl := fun _ hb => .inl hb
  kA := rfl
/-- The disk alone went on. -/
theorem PgTo.disk {w w' : World} {Q : PL} {p : PS} {s s' : DS} {L' : DL} (h : PgAt w Q p s) (h' : DkTo w w' Q.L L' s') (hk : s'.keep = s.keep) : PgTo w w' Q { Q with L := L' } p s' where
  pg := ⟨h'.dk, by show Blk w' Q.gp 82 (p.cells L'.gd Q.gm); rw [h'.gd]; exact h.hd.fr h'.fr h.gpL, h.hm.fr h'.fr h.gmL, by rw [hk]; show _ → ∀ b off, L'.kA = _ → _; rw [h'.kA]; exact h.kp⟩
  gp := rfl
  gd := h'.gd
  fr := h'.fr.mono (fun _ _ e => .inr (.inr e))
  bl := fun b hb => by
    rcases hb with rfl | rfl | hb
    · exact .inl (.inl rfl)
    · exact .inl (.inr (.inl rfl))
    · rcases h'.bl b hb with hb | hb
      · exact .inl (.inr (.inr hb))
      · exact .inr hb
  kA := h'.kA
/-- The pager's own block was written. -/
theorem PgTo.own {w w' : World} {Q : PL} {p p' : PS} {s : DS} (h : PgAt w Q p s) (hf : Fr (fun b => b = Q.gp) w w') (hb : Blk w' Q.gp 82 (p'.cells Q.L.gd Q.gm)) (hs : p'.st = p.st) : PgTo w w' Q Q p' s where
  pg := ⟨h.dk.fr hf (fun _ hb e => h.gpL (e ▸ hb)) h.kp, hb, by rw [hs]; exact h.hm.fr hf h.ne.symm, h.kp⟩
  gp := rfl
  gd := rfl
  fr := hf.mono (fun _ _ e => .inl e)
  bl := fun _ hb => .inl hb
  kA := rfl
def PS.gone (p : PS) (s : DS) : Bool := p.dead || s.dead
section
variable {w : World} {Q : PL} {p : PS} {s : DS}
set_option maxHeartbeats 1000000 in
theorem palive_ok (h : PgAt w Q p s) : Calls Tryd.prog 38 #[.pointer (some ⟨Q.gp, 0, none⟩)] w fun e w' => e = .returned (.int .i64 (if p.gone s then 20 else 0)) ∧ w = w' := by
  have c0 := h.c0
  have c5 := h.c5
  unfold PS.gone
  refine sx_enter (vs := [_]) Tryd.func38 rfl Tryd.ntmps38 rfl ?_
  cases hd : p.dead with
  | true =>
    rw [hd] at c5
    refine sx_seq ?_
    refine sx_region ?_
    refine sxl_y (wn_none rfl) rfl rfl (yp rfl) ?_
    refine sxl_nil ?_
    refine qx_seq ?_
    refine sx_seq ?_
    refine sx_block ?_
    refine sx_seq ?_
    refine sx_region ?_
    refine sxl_y (wn_none rfl) rfl rfl (yp rfl) ?_
    refine sxl_y (wn_none rfl) rfl rfl (y_eqlNil rfl rfl rfl (pt rfl)) ?_
    refine sxl_y (wn_none rfl) rfl rfl (yp rfl) ?_
    refine sxl_nil ?_
    refine qx_seq ?_
    refine sx_false rfl ?_
    refine sx_seq ?_
    refine sx_region ?_
    iterate 3 refine sxl_y (wn_none rfl) rfl rfl (yp rfl) ?_
    refine sxl_y (wn_none rfl) rfl rfl (y_load rfl rfl (sc rfl) (by assumption)) ?_
    refine sxl_y (wn_none rfl) rfl rfl (yp rfl) ?_
    refine sxl_off rfl rfl rfl rfl rfl rfl ?_
    refine sxl_off rfl rfl rfl rfl rfl rfl ?_
    refine sxl_off rfl rfl rfl rfl rfl rfl ?_
    refine sxl_off rfl rfl rfl rfl rfl rfl ?_
    refine sxl_off rfl rfl rfl rfl rfl rfl ?_
    iterate 2 refine sxl_y (wn_none rfl) rfl rfl (yp rfl) ?_
    refine sxl_nil ?_
    refine qx_seq ?_
    refine sx_true rfl ?_
    refine sx_seq ?_
    refine sx_region ?_
    refine sxl_y (wn_none rfl) rfl rfl (yp rfl) ?_
    refine sxl_nil ?_
    refine qx_seq ?_
    refine sx_ret ?_
    refine qx_block_ret ?_
    refine qx_then_ret ?_
    refine qx_ret1 rfl rfl ?_
    exact ⟨rfl, rfl⟩
  | false =>
    rw [hd] at c5
    refine sx_seq ?_
    refine sx_region ?_
    refine sxl_y (wn_none rfl) rfl rfl (yp rfl) ?_
    refine sxl_nil ?_
    refine qx_seq ?_
    refine sx_seq ?_
    refine sx_block ?_
    refine sx_seq ?_
    refine sx_region ?_
    refine sxl_y (wn_none rfl) rfl rfl (yp rfl) ?_
    refine sxl_y (wn_none rfl) rfl rfl (y_eqlNil rfl rfl rfl (pt rfl)) ?_
    refine sxl_y (wn_none rfl) rfl rfl (yp rfl) ?_
    refine sxl_nil ?_
    refine qx_seq ?_
    refine sx_false rfl ?_
    refine sx_seq ?_
    refine sx_region ?_
    iterate 3 refine sxl_y (wn_none rfl) rfl rfl (yp rfl) ?_
    refine sxl_y (wn_none rfl) rfl rfl (y_load rfl rfl (sc rfl) (by assumption)) ?_
    refine sxl_y (wn_none rfl) rfl rfl (yp rfl) ?_
    refine sxl_y (wn_on rfl rfl rfl) rfl rfl (yp rfl) ?_
    refine sxl_y (wn_on rfl rfl rfl) rfl rfl (yp rfl) ?_
    refine sxl_y (wn_on rfl rfl rfl) rfl rfl (yp rfl) ?_
    refine sxl_y (wn_on rfl rfl rfl) rfl rfl (y_load rfl rfl (sc rfl) (by assumption)) ?_
    refine sxl_pure (wn_on rfl rfl rfl) rfl rfl (yc_call rfl rfl Tryd.call10) (dead_any w Q.L.gd s.dead h.dk.c4) ?_
    iterate 2 refine sxl_y (wn_none rfl) rfl rfl (yp rfl) ?_
    refine sxl_nil ?_
    refine qx_seq ?_
    cases hs : s.dead with
    | true =>
      refine sx_true rfl ?_
      refine sx_seq ?_
      refine sx_region ?_
      refine sxl_y (wn_none rfl) rfl rfl (yp rfl) ?_
      refine sxl_nil ?_
      refine qx_seq ?_
      refine sx_ret ?_
      refine qx_block_ret ?_
      refine qx_then_ret ?_
      refine qx_ret1 rfl rfl ?_
      exact ⟨rfl, rfl⟩
    | false =>
      refine sx_false rfl ?_
      refine sx_skip ?_
      refine qx_block_normal ?_
      refine qx_seq ?_
      refine sx_seq ?_
      refine sx_region ?_
      refine sxl_y (wn_none rfl) rfl rfl (yp rfl) ?_
      refine sxl_nil ?_
      refine qx_seq ?_
      refine sx_ret ?_
      refine qx_ret1 rfl rfl ?_
      exact ⟨rfl, rfl⟩
theorem palive_t (h : PgAt w Q p s) (hg : p.gone s = true) : Calls Tryd.prog 38 #[.pointer (some ⟨Q.gp, 0, none⟩)] w fun e w' => e = .returned (.int .i64 20) ∧ w = w' := by
  have := palive_ok h; rw [hg] at this; exact this
theorem palive_f (h : PgAt w Q p s) (hg : p.gone s = false) : Calls Tryd.prog 38 #[.pointer (some ⟨Q.gp, 0, none⟩)] w fun e w' => e = .returned (.int .i64 0) ∧ w = w' := by
  have := palive_ok h; rw [hg] at this; exact this
/-- What 'at' answers. -/
def PS.at_ (p : PS) (s : DS) (n : Int) : Int × Int := if p.gone s then (0, 20) else if n < 2 ∨ (p.pages : Int) ≤ n then (0, 1) else (p.st n, 0)
set_option maxHeartbeats 1000000 in
theorem at_any (h : PgAt w Q p s) (n : Int) : Calls Tryd.prog 37 #[.pointer (some ⟨Q.gp, 0, none⟩), .int .i64 n] w fun e w' => e = .returned (.tuple #[.int .i64 (p.at_ s n).1, .int .i64 (p.at_ s n).2]) ∧ w = w' := by
  have c1 := h.c1
  have c4 := h.c4
  unfold PS.at_
  refine sx_enter (vs := [_, _]) Tryd.func37 rfl Tryd.ntmps37 rfl ?_
  cases hg : p.gone s with
  | true =>
    refine sx_seq ?_
    refine sx_region ?_
    iterate 2 refine sxl_y (wn_none rfl) rfl rfl (yp rfl) ?_
    refine sxl_nil ?_
    refine qx_seq ?_
    refine sx_seq ?_
    refine sx_seq ?_
    refine sx_region ?_
    refine sxl_y (wn_none rfl) rfl rfl (yp rfl) ?_
    refine sxl_pure (wn_none rfl) rfl rfl (yc_call rfl rfl Tryd.call38) (palive_t h hg) ?_
    refine sxl_y (wn_none rfl) rfl rfl (yp rfl) ?_
    refine sxl_nil ?_
    refine qx_seq ?_
    refine sx_seq ?_
    refine sx_region ?_
    refine sxl_y (wn_none rfl) rfl rfl (yp rfl) ?_
    refine sxl_y (wn_none rfl) rfl rfl (y_neq_t rfl rfl rfl (by omega)) ?_
    refine sxl_nil ?_
    refine qx_seq ?_
    refine sx_true rfl ?_
    refine sx_seq ?_
    refine sx_region ?_
    iterate 3 refine sxl_y (wn_none rfl) rfl rfl (yp rfl) ?_
    refine sxl_nil ?_
    refine qx_seq ?_
    refine sx_ret ?_
    refine qx_then_ret ?_
    refine qx_ret2 rfl rfl rfl ?_
    exact ⟨rfl, rfl⟩
  | false =>
    by_cases h2 : n < 2
    · rw [if_neg (by decide), if_pos (.inl h2)]
      refine sx_seq ?_
      refine sx_region ?_
      iterate 2 refine sxl_y (wn_none rfl) rfl rfl (yp rfl) ?_
      refine sxl_nil ?_
      refine qx_seq ?_
      refine sx_seq ?_
      refine sx_seq ?_
      refine sx_region ?_
      refine sxl_y (wn_none rfl) rfl rfl (yp rfl) ?_
      refine sxl_pure (wn_none rfl) rfl rfl (yc_call rfl rfl Tryd.call38) (palive_f h hg) ?_
      refine sxl_y (wn_none rfl) rfl rfl (yp rfl) ?_
      refine sxl_nil ?_
      refine qx_seq ?_
      refine sx_seq ?_
      refine sx_region ?_
      refine sxl_y (wn_none rfl) rfl rfl (yp rfl) ?_
      refine sxl_y (wn_none rfl) rfl rfl (y_neq_f rfl rfl rfl (by omega)) ?_
      refine sxl_nil ?_
      refine qx_seq ?_
      refine sx_false rfl ?_
      refine sx_skip ?_
      refine qx_seq ?_
      refine sx_seq ?_
      refine sx_seq ?_
      refine sx_region ?_
      refine sxl_y (wn_none rfl) rfl rfl (yp rfl) ?_
      refine sxl_y (wn_none rfl) rfl rfl (y_lss_t rfl rfl rfl (by omega)) ?_
      refine sxl_y (wn_none rfl) rfl rfl (yp rfl) ?_
      refine sxl_off rfl rfl rfl rfl rfl rfl ?_
      refine sxl_off rfl rfl rfl rfl rfl rfl ?_
      refine sxl_off rfl rfl rfl rfl rfl rfl ?_
      refine sxl_off rfl rfl rfl rfl rfl rfl ?_
      refine sxl_off rfl rfl rfl rfl rfl rfl ?_
      refine sxl_off rfl rfl rfl rfl rfl rfl ?_
      refine sxl_y (wn_none rfl) rfl rfl (yp rfl) ?_
      refine sxl_nil ?_
      refine qx_seq ?_
      refine sx_true rfl ?_
      refine sx_seq ?_
      refine sx_region ?_
      iterate 2 refine sxl_y (wn_none rfl) rfl rfl (yp rfl) ?_
      refine sxl_nil ?_
      refine qx_seq ?_
      refine sx_ret ?_
      refine qx_then_ret ?_
      refine qx_ret2 rfl rfl rfl ?_
      exact ⟨rfl, rfl⟩
    by_cases hn : (p.pages : Int) ≤ n
    · rw [if_neg (by decide), if_pos (.inr hn)]
      refine sx_seq ?_
      refine sx_region ?_
      iterate 2 refine sxl_y (wn_none rfl) rfl rfl (yp rfl) ?_
      refine sxl_nil ?_
      refine qx_seq ?_
      refine sx_seq ?_
      refine sx_seq ?_
      refine sx_region ?_
      refine sxl_y (wn_none rfl) rfl rfl (yp rfl) ?_
      refine sxl_pure (wn_none rfl) rfl rfl (yc_call rfl rfl Tryd.call38) (palive_f h hg) ?_
      refine sxl_y (wn_none rfl) rfl rfl (yp rfl) ?_
      refine sxl_nil ?_
      refine qx_seq ?_
      refine sx_seq ?_
      refine sx_region ?_
      refine sxl_y (wn_none rfl) rfl rfl (yp rfl) ?_
      refine sxl_y (wn_none rfl) rfl rfl (y_neq_f rfl rfl rfl (by omega)) ?_
      refine sxl_nil ?_
      refine qx_seq ?_
      refine sx_false rfl ?_
      refine sx_skip ?_
      refine qx_seq ?_
      refine sx_seq ?_
      refine sx_seq ?_
      refine sx_region ?_
      refine sxl_y (wn_none rfl) rfl rfl (yp rfl) ?_
      refine sxl_y (wn_none rfl) rfl rfl (y_lss_f rfl rfl rfl (by omega)) ?_
      refine sxl_y (wn_none rfl) rfl rfl (yp rfl) ?_
      refine sxl_y (wn_on rfl rfl rfl) rfl rfl (yp rfl) ?_
      refine sxl_y (wn_on rfl rfl rfl) rfl rfl (yp rfl) ?_
      refine sxl_y (wn_on rfl rfl rfl) rfl rfl (yp rfl) ?_
      refine sxl_y (wn_on rfl rfl rfl) rfl rfl (yp rfl) ?_
      refine sxl_y (wn_on rfl rfl rfl) rfl rfl (y_load rfl rfl (sc rfl) (by assumption)) ?_
      refine sxl_y (wn_on rfl rfl rfl) rfl rfl (y_geq_t rfl rfl rfl (by omega)) ?_
      refine sxl_y (wn_none rfl) rfl rfl (yp rfl) ?_
      refine sxl_nil ?_
      refine qx_seq ?_
      refine sx_true rfl ?_
      refine sx_seq ?_
      refine sx_region ?_
      iterate 2 refine sxl_y (wn_none rfl) rfl rfl (yp rfl) ?_
      refine sxl_nil ?_
      refine qx_seq ?_
      refine sx_ret ?_
      refine qx_then_ret ?_
      refine qx_ret2 rfl rfl rfl ?_
      exact ⟨rfl, rfl⟩
    · rw [if_neg (by decide), if_neg (by omega)]
      refine sx_seq ?_
      refine sx_region ?_
      iterate 2 refine sxl_y (wn_none rfl) rfl rfl (yp rfl) ?_
      refine sxl_nil ?_
      refine qx_seq ?_
      refine sx_seq ?_
      refine sx_seq ?_
      refine sx_region ?_
      refine sxl_y (wn_none rfl) rfl rfl (yp rfl) ?_
      refine sxl_pure (wn_none rfl) rfl rfl (yc_call rfl rfl Tryd.call38) (palive_f h hg) ?_
      refine sxl_y (wn_none rfl) rfl rfl (yp rfl) ?_
      refine sxl_nil ?_
      refine qx_seq ?_
      refine sx_seq ?_
      refine sx_region ?_
      refine sxl_y (wn_none rfl) rfl rfl (yp rfl) ?_
      refine sxl_y (wn_none rfl) rfl rfl (y_neq_f rfl rfl rfl (by omega)) ?_
      refine sxl_nil ?_
      refine qx_seq ?_
      refine sx_false rfl ?_
      refine sx_skip ?_
      refine qx_seq ?_
      refine sx_seq ?_
      refine sx_seq ?_
      refine sx_region ?_
      refine sxl_y (wn_none rfl) rfl rfl (yp rfl) ?_
      refine sxl_y (wn_none rfl) rfl rfl (y_lss_f rfl rfl rfl (by omega)) ?_
      refine sxl_y (wn_none rfl) rfl rfl (yp rfl) ?_
      refine sxl_y (wn_on rfl rfl rfl) rfl rfl (yp rfl) ?_
      refine sxl_y (wn_on rfl rfl rfl) rfl rfl (yp rfl) ?_
      refine sxl_y (wn_on rfl rfl rfl) rfl rfl (yp rfl) ?_
      refine sxl_y (wn_on rfl rfl rfl) rfl rfl (yp rfl) ?_
      refine sxl_y (wn_on rfl rfl rfl) rfl rfl (y_load rfl rfl (sc rfl) (by assumption)) ?_
      refine sxl_y (wn_on rfl rfl rfl) rfl rfl (y_geq_f rfl rfl rfl (by omega)) ?_
      refine sxl_y (wn_none rfl) rfl rfl (yp rfl) ?_
      refine sxl_nil ?_
      refine qx_seq ?_
      refine sx_false rfl ?_
      refine sx_skip ?_
      refine qx_seq ?_
      refine sx_seq ?_
      refine sx_region ?_
      iterate 3 refine sxl_y (wn_none rfl) rfl rfl (yp rfl) ?_
      refine sxl_y (wn_none rfl) rfl rfl (y_load rfl rfl (sc rfl) (by assumption)) ?_
      refine sxl_y (wn_none rfl) rfl rfl (yp rfl) ?_
      refine sxl_y (wn_none rfl) rfl rfl (y_stt rfl rfl rfl h.hm) ?_
      iterate 2 refine sxl_y (wn_none rfl) rfl rfl (yp rfl) ?_
      refine sxl_nil ?_
      refine qx_seq ?_
      refine sx_ret ?_
      refine qx_ret2 rfl rfl rfl ?_
      exact ⟨rfl, rfl⟩
theorem pages_ok (h : PgAt w Q p s) : Calls Tryd.prog 52 #[.pointer (some ⟨Q.gp, 0, none⟩)] w fun e w' => e = .returned (.int .i64 (p.pages : Int)) ∧ w = w' := by
  have c1 := h.c1
  refine sx_enter (vs := [_]) Tryd.func52 rfl Tryd.ntmps52 rfl ?_
  refine sx_seq ?_
  refine sx_region ?_
  refine sxl_y (wn_none rfl) rfl rfl (yp rfl) ?_
  refine sxl_nil ?_
  refine qx_seq ?_
  refine sx_seq ?_
  refine sx_seq ?_
  refine sx_region ?_
  refine sxl_y (wn_none rfl) rfl rfl (yp rfl) ?_
  refine sxl_y (wn_none rfl) rfl rfl (y_eqlNil rfl rfl rfl (pt rfl)) ?_
  refine sxl_nil ?_
  refine qx_seq ?_
  refine sx_false rfl ?_
  refine sx_skip ?_
  refine qx_seq ?_
  refine sx_seq ?_
  refine sx_region ?_
  iterate 3 refine sxl_y (wn_none rfl) rfl rfl (yp rfl) ?_
  refine sxl_y (wn_none rfl) rfl rfl (y_load rfl rfl (sc rfl) (by assumption)) ?_
  refine sxl_y (wn_none rfl) rfl rfl (yp rfl) ?_
  refine sxl_nil ?_
  refine qx_seq ?_
  refine sx_ret ?_
  refine qx_ret1 rfl rfl ?_
  exact ⟨rfl, rfl⟩
theorem seq_ok (h : PgAt w Q p s) : Calls Tryd.prog 23 #[.pointer (some ⟨Q.gp, 0, none⟩)] w fun e w' => e = .returned (.int .i64 p.seq) ∧ w = w' := by
  have c2 := h.c2
  refine sx_enter (vs := [_]) Tryd.func23 rfl Tryd.ntmps23 rfl ?_
  refine sx_seq ?_
  refine sx_region ?_
  refine sxl_y (wn_none rfl) rfl rfl (yp rfl) ?_
  refine sxl_nil ?_
  refine qx_seq ?_
  refine sx_seq ?_
  refine sx_seq ?_
  refine sx_region ?_
  refine sxl_y (wn_none rfl) rfl rfl (yp rfl) ?_
  refine sxl_y (wn_none rfl) rfl rfl (y_eqlNil rfl rfl rfl (pt rfl)) ?_
  refine sxl_nil ?_
  refine qx_seq ?_
  refine sx_false rfl ?_
  refine sx_skip ?_
  refine qx_seq ?_
  refine sx_seq ?_
  refine sx_region ?_
  iterate 3 refine sxl_y (wn_none rfl) rfl rfl (yp rfl) ?_
  refine sxl_y (wn_none rfl) rfl rfl (y_load rfl rfl (sc rfl) (by assumption)) ?_
  refine sxl_y (wn_none rfl) rfl rfl (yp rfl) ?_
  refine sxl_nil ?_
  refine qx_seq ?_
  refine sx_ret ?_
  refine qx_ret1 rfl rfl ?_
  exact ⟨rfl, rfl⟩
theorem root_ok (h : PgAt w Q p s) : Calls Tryd.prog 54 #[.pointer (some ⟨Q.gp, 0, none⟩)] w fun e w' => e = .returned (.int .i64 p.root) ∧ w = w' := by
  have c3 := h.c3
  refine sx_enter (vs := [_]) Tryd.func54 rfl Tryd.ntmps54 rfl ?_
  refine sx_seq ?_
  refine sx_region ?_
  refine sxl_y (wn_none rfl) rfl rfl (yp rfl) ?_
  refine sxl_nil ?_
  refine qx_seq ?_
  refine sx_seq ?_
  refine sx_seq ?_
  refine sx_region ?_
  refine sxl_y (wn_none rfl) rfl rfl (yp rfl) ?_
  refine sxl_y (wn_none rfl) rfl rfl (y_eqlNil rfl rfl rfl (pt rfl)) ?_
  refine sxl_nil ?_
  refine qx_seq ?_
  refine sx_false rfl ?_
  refine sx_skip ?_
  refine qx_seq ?_
  refine sx_seq ?_
  refine sx_region ?_
  iterate 3 refine sxl_y (wn_none rfl) rfl rfl (yp rfl) ?_
  refine sxl_y (wn_none rfl) rfl rfl (y_load rfl rfl (sc rfl) (by assumption)) ?_
  refine sxl_y (wn_none rfl) rfl rfl (yp rfl) ?_
  refine sxl_nil ?_
  refine qx_seq ?_
  refine sx_ret ?_
  refine qx_ret1 rfl rfl ?_
  exact ⟨rfl, rfl⟩
end
end Go.Proofs.YthdlljlcffokbaaDoor
namespace Go.Proofs.YthdlljlcffokbaaDoor
open Go.RowKit

def M64 : Nat := 18446744073709551616
def fnv0 : Nat := 14695981039346656037
def fnv1 (s : Nat) (c : UInt8) : Nat := ((s ^^^ c.toNat) * 1099511628211) % M64
def fnv (s : Nat) (l : List UInt8) : Nat := l.foldl fnv1 s
theorem fnv1_lt (s : Nat) (c : UInt8) : fnv1 s c < M64 := Nat.mod_lt _ (by decide)
theorem fnv_lt (s : Nat) (hs : s < M64) (l : List UInt8) : fnv s l < M64 := by
  induction l generalizing s with
  | nil => exact hs
  | cons c l ih => exact ih _ (fnv1_lt s c)
theorem foldl_snoc {α β : Type} (f : β → α → β) (s : β) (l : List α) (k : Nat) (h : k < l.length) : List.foldl f s (l.take (k + 1)) = f (List.foldl f s (l.take k)) l[k] := by
  rw [List.take_succ_eq_append_getElem h, List.foldl_append]; rfl
theorem fnv_snoc (s : Nat) (l : List UInt8) (k : Nat) (h : k < l.length) : fnv s (l.take (k + 1)) = fnv1 (fnv s (l.take k)) l[k] := foldl_snoc fnv1 s l k h
/-- The walk's word for one step of the sum. -/
def walkStep (x : Int) (c : UInt8) : Int := IntKind.u64.wrap (bits BinOp.xor IntKind.u64 x (IntKind.u64.wrap (c.toNat : Int)) * 1099511628211)
theorem walkStep_eq (s : Nat) (c : UInt8) (hs : s < M64) : walkStep (s : Int) c = ((fnv1 s c : Nat) : Int) := by
  have hc : c.toNat < 256 := c.toNat_lt
  have hs' : s < 18446744073709551616 := hs
  unfold walkStep fnv1
  rw [show IntKind.u64.wrap (c.toNat : Int) = (c.toNat : Int) from by rw [IntKind.wrap_u64]; omega]
  rw [bits_xor_u64_nat s c.toNat hs' (by omega), IntKind.wrap_u64]
  show _ = ((((s ^^^ c.toNat) * 1099511628211) % 18446744073709551616 : Nat) : Int)
  omega
def be8 (n : Nat) : List UInt8 := (List.range 8).map fun i => UInt8.ofNat (n >>> (56 - 8 * i))
theorem be8_length (n : Nat) : (be8 n).length = 8 := by simp [be8]

theorem toNat_ofNat8 (x : Nat) : ((UInt8.ofNat x).toNat : Int) = (x : Int) % 256 := by
  rw [UInt8.toNat_ofNat']; omega
theorem be8_at (n k : Nat) (h : k < 8) : (be8 n)[k]? = some (UInt8.ofNat (n >>> (56 - 8 * k))) := by
  simp [be8, h]
/-- The row of zeros that is filled from the left, one byte on. -/
theorem fill_set (l : List UInt8) (m k : Nat) (hm : l.length = m) (hk : k < m) (c : UInt8) (hc : l[k]? = some c) :
    (bvs (l.take k) ++ List.replicate (m - k) (Value.int .u8 0)).set k (bv c) = bvs (l.take (k + 1)) ++ List.replicate (m - (k + 1)) (.int .u8 0) := by
  have hkl : k < l.length := by omega
  obtain rfl : l[k] = c := by simpa [List.getElem?_eq_getElem hkl] using hc
  have hl : (bvs (l.take k)).length = k := by rw [bvs_length, List.length_take]; omega
  rw [List.set_append_right _ _ (by omega), hl, Nat.sub_self, show m - k = (m - (k + 1)) + 1 from by omega, List.replicate_succ, List.set_cons_zero,
    List.take_succ_eq_append_getElem hkl, bvs_append]
  simp [bvs]
theorem be8_set (n k : Nat) (h : k < 8) :
    (bvs ((be8 n).take k) ++ List.replicate (8 - k) (Value.int .u8 0)).set k (.int .u8 ((n : Int) / 2 ^ (56 - 8 * k) % 256)) = bvs ((be8 n).take (k + 1)) ++ List.replicate (8 - (k + 1)) (.int .u8 0) := by
  rw [← fill_set (be8 n) 8 k (be8_length n) h _ (be8_at n k h)]
  congr 1
  unfold bv
  rw [toNat_ofNat8, Nat.shiftRight_eq_div_pow]
  simp

/-- What stands behind a page's sum. -/
def tailOf (b : List UInt8) : List UInt8 := UInt8.ofNat (b.length / 256) :: UInt8.ofNat b.length :: (b ++ List.replicate (502 - b.length) 0)
def pageSum (n : Nat) (t : List UInt8) : Nat := fnv (fnv fnv0 (be8 n)) t
def pageOf (n : Nat) (b : List UInt8) : List UInt8 := be8 (pageSum n (tailOf b)) ++ tailOf b
theorem tailOf_length (b : List UInt8) (h : b.length ≤ 502) : (tailOf b).length = 504 := by simp [tailOf]; omega
theorem pageOf_length (n : Nat) (b : List UInt8) (h : b.length ≤ 502) : (pageOf n b).length = 512 := by
  simp [pageOf, be8_length, tailOf_length b h]
theorem fnv0_lt : fnv0 < M64 := by decide
theorem pageSum_lt (n : Nat) (t : List UInt8) : pageSum n t < M64 := fnv_lt _ (fnv_lt _ fnv0_lt _) _
end Go.Proofs.YthdlljlcffokbaaDoor
namespace Go.Proofs.YthdlljlcffokbaaDoor
open Go.RowKit

set_option maxHeartbeats 400000 in
/-- The closure that sums: it goes on in its own cell g. -/
theorem summer_any (s : Nat) (A : Option Addr) (len cap g : Nat) (l : List UInt8) (w : World) (hm : len ≤ 140737488351232) (hs : s < M64) (hr : Rd w A len (bvs l))
    (hg : Blk w g 108 [.int .u64 (s : Int)]) (hne : 0 < len → ∀ b off, A = some ⟨b, off, none⟩ → b ≠ g) :
    Calls Tryd.prog 79 #[.slice A len cap, .pointer (some ⟨g, 0, none⟩)] w fun e w' =>
      e = .returned (.int .u64 (fnv s l : Nat)) ∧ Blk w' g 108 [.int .u64 (fnv s l : Nat)] ∧ Fr (fun k => k = g) w w' := by
  have HL := Lib.hid (show l.length = len by rw [← bvs_length, hr.1])
  have HS := Lib.hid hs
  clear hs
  go_enter Tryd.func79, Tryd.ntmps79
  go_wp2
  go_loopw [8] (fun i wr => ∃ k : Nat, k ≤ len ∧ i = .int .i64 k ∧ Blk wr g 108 [.int .u64 ((fnv s (l.take k) : Nat) : Int)] ∧ Fr (fun k => k = g) w wr) (fun i _ => len - (intOf i).toNat)
  case atStart => exact ⟨0, Nat.zero_le _, rfl, hg, Fr.refl⟩
  case round =>
    obtain ⟨k, hk, rfl, hgr, hfr⟩ := hrel
    have hcg := hgr.cell 0
    have hfg := hgr.frozen 0
    have HG := Lib.hid hgr
    have HF := Lib.hid hfr
    by_cases hlt : k < len
    · obtain ⟨b, off, rfl, u, hu, hcell⟩ := (hr.fr hfr (fun h0 b off e => hne h0 b off e)).at_ hlt
      have hbg : b ≠ g := hne (by omega) b off rfl
      have hkl : k < l.length := by rw [HL.out]; exact hlt
      rw [bvs_getElem?, List.getElem?_eq_getElem hkl] at hu
      obtain rfl : bv l[k] = u := by simpa using hu
      clear hu hgr hfr hr hg
      unfold bv at hcell
      have HN := Lib.hid ((fnv_snoc s l k hkl).symm.trans rfl)
      have HW := Lib.hid (walkStep_eq _ l[k] (fnv_lt s HS.out (l.take k)))
      generalize fnv s (l.take k) = x at *
      generalize l[k] = c at *
      clear hkl
      simp only [List.getElem?_cons_zero] at hcg
      go_wp2
      go_roundw
      case rel =>
        refine ⟨k + 1, by omega, by go_num, ?_, HF.out.setCell (fun _ => rfl) _⟩
        have := HG.out.set 0 (.int .u64 (walkStep x c))
        rw [← HN.out, ← HW.out]
        exact this
      case measure => simp [intOf]; omega
    · have HK := Lib.hid (show k = len by omega)
      clear hgr hfr
      simp only [List.getElem?_cons_zero] at hcg
      go_wp2
      go_ret
      have hG := HG.out
      rw [List.take_of_length_le (by rw [HL.out]; omega)] at hG ⊢
      exact ⟨rfl, hG, HF.out⟩

/-- A sum that goes on: a new cell that holds the sum's beginning. -/
theorem summing_any (w : World) :
    Calls Tryd.prog 70 #[] w fun e w' => ∃ g, e = .returned (.func (.func 79) #[] #[.pointer (some ⟨g, 0, none⟩)]) ∧
      w.heap.size ≤ g ∧ g < w'.heap.size ∧ Blk w' g 108 [.int .u64 (fnv0 : Int)] ∧ Fr0 w w' := by
  have hmf : ∀ (fn : Fn) (first cap : Array Value) (w : World), (Instr.makeFunc fn first cap).run Tryd.prog w = .ok (.func fn first cap) w := fun _ _ _ _ => rfl
  go_enter Tryd.func70, Tryd.ntmps70
  go_wp2
  go_ret
  exact ⟨_, rfl, Nat.le_refl _, by simp, Blk.new w _ [_], Fr.refl.alloc _⟩

set_option maxHeartbeats 400000 in
theorem bytes8_any (n : Nat) (w : World) (hn : n < M64) :
    Calls Tryd.prog 71 #[.int .u64 (n : Int)] w fun e w' => e = .returned (.agg (bvs (be8 n)).toArray) ∧ Fr0 w w' := by
  have HN := Lib.hid hn
  clear hn
  go_enter Tryd.func71, Tryd.ntmps71
  go_wp2
  go_loopw [3, 4] (fun _ i wr => ∃ k : Nat, k ≤ 8 ∧ i = .int .i64 k ∧ Blk wr w.heap.size 116 (bvs ((be8 n).take k) ++ List.replicate (8 - k) (.int .u8 0)) ∧ Fr0 w wr) (fun _ i _ => 8 - (intOf i).toNat)
  case atStart => exact ⟨0, by omega, rfl, Blk.new w _ [_, _, _, _, _, _, _, _], Fr.refl.alloc _⟩
  case round =>
    obtain ⟨k, hk, rfl, hgr, hfr⟩ := hrel
    have HG := Lib.hid hgr
    have HF := Lib.hid hfr
    by_cases hlt : k < 8
    · have hcg : ∃ u, wr.cell? ⟨w.heap.size, k, none⟩ = some u := by
        rw [hgr.cell k]
        exact ⟨_, List.getElem?_eq_getElem (by simp [bvs_length, be8_length]; omega)⟩
      obtain ⟨u, hcg⟩ := hcg
      have hfg := hgr.frozen k
      clear hgr hfr
      go_wp2
      go_roundw
      case rel =>
        refine ⟨k + 1, by omega, by go_num, ?_, HF.out.setCell (fun h => absurd h (Nat.lt_irrefl _)) _⟩
        have := HG.out.set k (.int .u8 (↑n / 2 ^ (56 - 8 * k) % 256))
        rwa [be8_set n k hlt] at this
      case measure => simp [intOf]; omega
    · obtain rfl : k = 8 := by omega
      clear hgr hfr
      have HG8 : Hid (Blk wr w.heap.size 116 (bvs (be8 n))) := by
        have := HG.out
        rw [List.take_of_length_le (by rw [be8_length]; omega)] at this
        exact Lib.hid (by simpa using this)
      clear HG
      have hl8 : (bvs (be8 n)).length = 8 := by rw [bvs_length, be8_length]
      have HL := Lib.hid hl8
      clear hl8
      go_wp2_with (first
        | (refine Does.list rfl (does_load 116 (.tmp 2) rfl w.heap.size 0 8 116 (bvs (be8 n)) (.array 8 5) rfl HG8.out Tryd.underlying116 rfl (by kernel_rfl) (by rw [HL.out]; omega)) ?_
           rintro _ _ ⟨rfl, rfl⟩
           rw [show List.take 8 (List.drop 0 (bvs (be8 n))) = bvs (be8 n) from by rw [List.drop_zero, List.take_of_length_le (by rw [HL.out]; omega)]])
        | (refine Does.list rfl (does_store 116 (.tmp 2) (.tmp 16) rfl w.heap.size 0 116 (bvs (be8 n)) (bvs (be8 n)) rfl rfl HG8.out (by rw [HL.out]; kernel_rfl) (by omega) (bvs_one _)) ?_
           rintro _ w2 ⟨rfl, hb2, hf2⟩
           rw [put_all _ _ rfl] at hb2
           have HB2 := Lib.hid hb2
           have HF2 := Lib.hid hf2
           clear hb2 hf2))
      refine bodyPost_ret (v := .agg (bvs (be8 n)).toArray) ?_ rfl ⟨rfl, HF.out.step HF2.out (fun k hk e => by omega)⟩
      exact results_cell_row (P := Tryd.prog) rfl _ _ w.heap.size 116 _ (0, 0) (.array 8 5) rfl HB2.out Tryd.underlying116 rfl (by rw [List.size_toArray, HL.out]; kernel_rfl)
end Go.Proofs.YthdlljlcffokbaaDoor
namespace Go.Proofs.YthdlljlcffokbaaDoor
open Go.RowKit

def zeros (n : Nat) : List Value := List.replicate n (.int .u8 0)
theorem zeros_length (n : Nat) : (zeros n).length = n := by simp [zeros]
theorem info_sheet : (Tryd.prog.info? 111).map (·.zero) = some (some (.agg (zeros 512).toArray)) := by kernel_rfl
theorem size_sheet : (Tryd.prog.info? 111).map (·.size) = some 512 := by kernel_rfl
theorem info_eight : (Tryd.prog.info? 116).map (·.zero) = some (some (.agg (zeros 8).toArray)) := by kernel_rfl
theorem size_eight : (Tryd.prog.info? 116).map (·.size) = some 8 := by kernel_rfl

theorem rd_blk {w : World} {g : Nat} {t : TypeId} {cs : List Value} (h : Blk w g t cs) (off n : Nat) (xs : List Value) (hl : off + n ≤ cs.length) (hx : (cs.drop off).take n = xs) :
    Rd w (some ⟨g, off, none⟩) n xs := hx ▸ Rd.of_blk h off hl

set_option maxHeartbeats 1000000 in
theorem sealed_any (n : Nat) (s : List UInt8) (w : World) (hn : n ≤ 16383) (hs : s.length = 512) :
    Calls Tryd.prog 66 #[.int .i64 (n : Int), .agg (bvs s).toArray] w fun e w' =>
      e = .returned (.agg (bvs (be8 (pageSum n (s.drop 8)) ++ s.drop 8)).toArray) ∧ Fr0 w w' := by
  have HS := Lib.hid (show (bvs s).length = 512 by rw [bvs_length, hs])
  have HS' := Lib.hid hs
  clear hs
  go_enter Tryd.func66, Tryd.ntmps66
  go_wp2_with (first
    | (refine Does.list rfl (does_box 111 (.tmp 1) rfl (bvs s) rfl) ?_
       rintro _ w1 ⟨g3, rfl, h3, h3', hb1, hf1⟩
       have HB1 := Lib.hid hb1; have HF1 := Lib.hid hf1; clear hb1 hf1)
    | (refine Does.list rfl (does_alloc 111 rfl _ (zeros 512) info_sheet rfl) ?_
       rintro _ w2 ⟨g4, rfl, h4, h4', hb2, hf2⟩
       have HB2 := Lib.hid hb2; have HF2 := Lib.hid hf2; clear hb2 hf2)
    | fail)
  refine (summing_any _).mono ?_
  rintro e w3 ⟨g5, rfl, h5, h5', hb3, hf3⟩
  have HB3 := Lib.hid hb3; have HF3 := Lib.hid hf3; clear hb3 hf3
  have HT := Lib.hid (((HF1.out.then0 HF2.out).then0 HF3.out))
  have hw3 : w.heap.size ≤ w3.heap.size := HT.out.size
  replace HB1 := Lib.hid ((HB1.out.fr0 HF2.out).fr0 HF3.out)
  replace HB2 := Lib.hid (HB2.out.fr0 HF3.out)
  clear HF1 HF2 HF3
  go_wp2_with fail
  refine (bytes8_any n _ (by unfold M64; omega)).mono ?_
  rintro e w4 ⟨rfl, hf4⟩
  have hw4 : w3.heap.size ≤ w4.heap.size := hf4.size
  replace HB1 := Lib.hid (HB1.out.fr0 hf4); replace HB2 := Lib.hid (HB2.out.fr0 hf4); replace HB3 := Lib.hid (HB3.out.fr0 hf4); replace HT := Lib.hid (HT.out.then0 hf4)
  clear hf4
  go_wp2_with (first
    | (refine Does.list rfl (does_alloc 116 rfl _ (zeros 8) info_eight rfl) ?_
       rintro _ w5 ⟨g6, rfl, h6, h6', hb, hf⟩
       have hw5 : w4.heap.size ≤ w5.heap.size := hf.size
       have HB6 := Lib.hid hb
       replace HB1 := Lib.hid (HB1.out.fr0 hf); replace HB2 := Lib.hid (HB2.out.fr0 hf); replace HB3 := Lib.hid (HB3.out.fr0 hf); replace HT := Lib.hid (HT.out.then0 hf)
       clear hb hf)
    | (refine Does.list rfl (does_store 116 (.tmp 6) (.tmp 11) rfl g6 0 116 (zeros 8) (bvs (be8 n)) rfl rfl HB6.out (by rw [bvs_length, be8_length]; exact size_eight) (by rw [bvs_length, be8_length, zeros_length]; omega) (bvs_one _)) ?_
       rintro _ w6 ⟨rfl, hb, hf⟩
       rw [put_all _ _ (by rw [bvs_length, be8_length, zeros_length])] at hb
       have hw6 : w5.heap.size ≤ w6.heap.size := hf.size
       replace HB6 := Lib.hid hb
       replace HB1 := Lib.hid (HB1.out.fr hf (by omega)); replace HB2 := Lib.hid (HB2.out.fr hf (by omega)); replace HB3 := Lib.hid (HB3.out.fr hf (by omega)); replace HT := Lib.hid (HT.out.step hf (fun k hk e => by omega))
       clear hb hf)
    | fail)
  refine (summer_any fnv0 (some ⟨g6, 0, none⟩) 8 8 g5 (be8 n) w6 (by omega) fnv0_lt (rd_blk HB6.out 0 8 _ (by rw [bvs_length, be8_length]; omega) (by rw [List.drop_zero, List.take_of_length_le (by rw [bvs_length, be8_length]; omega)])) HB3.out
    (fun _ b off e => by injection e with e; injection e with e1 _ _; omega)).mono ?_
  rintro e w7 ⟨rfl, hb, hf⟩
  have hw7 : w6.heap.size ≤ w7.heap.size := hf.size
  replace HB3 := Lib.hid hb
  replace HB1 := Lib.hid (HB1.out.fr hf (by omega)); replace HB2 := Lib.hid (HB2.out.fr hf (by omega)); replace HT := Lib.hid (HT.out.step hf (fun k hk e => by omega))
  clear hb hf HB6
  go_wp2_with fail
  refine (summer_any (fnv fnv0 (be8 n)) (some ⟨g3, 8, none⟩) 504 504 g5 (s.drop 8) w7 (by omega) (fnv_lt _ fnv0_lt _) (rd_blk HB1.out 8 504 _ (by rw [HS.out]; omega) (by rw [List.take_of_length_le (by rw [List.length_drop, HS.out]; omega)]; simp [bvs])) HB3.out
    (fun _ b off e => by injection e with e; injection e with e1 _ _; omega)).mono ?_
  rintro e w8 ⟨rfl, _, hf⟩
  have hw8 : w7.heap.size ≤ w8.heap.size := hf.size
  replace HB1 := Lib.hid (HB1.out.fr hf (by omega)); replace HB2 := Lib.hid (HB2.out.fr hf (by omega)); replace HT := Lib.hid (HT.out.step hf (fun k hk e => by omega))
  clear hf HB3
  have HP := Lib.hid (pageSum_lt n (s.drop 8))
  rw [show fnv (fnv fnv0 (be8 n)) (s.drop 8) = pageSum n (s.drop 8) from rfl]
  generalize hsum : pageSum n (s.drop 8) = sum at *
  have HSUM := Lib.hid hsum; clear hsum
  go_wp2_with fail
  refine (bytes8_any sum _ HP.out).mono ?_
  rintro e w9 ⟨rfl, hf⟩
  have hw9 : w8.heap.size ≤ w9.heap.size := hf.size
  replace HB1 := Lib.hid (HB1.out.fr0 hf); replace HB2 := Lib.hid (HB2.out.fr0 hf); replace HT := Lib.hid (HT.out.then0 hf)
  clear hf
  go_wp2_with (first
    | (refine Does.list rfl (does_alloc 116 rfl _ (zeros 8) info_eight rfl) ?_
       rintro _ w10 ⟨g7, rfl, h7, h7', hb, hf⟩
       have hw10 : w9.heap.size ≤ w10.heap.size := hf.size
       have HB7 := Lib.hid hb
       replace HB1 := Lib.hid (HB1.out.fr0 hf); replace HB2 := Lib.hid (HB2.out.fr0 hf); replace HT := Lib.hid (HT.out.then0 hf)
       clear hb hf)
    | (refine Does.list rfl (does_store 116 (.tmp 7) (.tmp 18) rfl g7 0 116 (zeros 8) (bvs (be8 sum)) rfl rfl HB7.out (by rw [bvs_length, be8_length]; exact size_eight) (by rw [bvs_length, be8_length, zeros_length]; omega) (bvs_one _)) ?_
       rintro _ w11 ⟨rfl, hb, hf⟩
       rw [put_all _ _ (by rw [bvs_length, be8_length, zeros_length])] at hb
       have hw11 : w10.heap.size ≤ w11.heap.size := hf.size
       replace HB7 := Lib.hid hb
       replace HB1 := Lib.hid (HB1.out.fr hf (by omega)); replace HB2 := Lib.hid (HB2.out.fr hf (by omega)); replace HT := Lib.hid (HT.out.step hf (fun k hk e => by omega))
       clear hb hf)
    | fail)
  go_region_law (refine Does.step rfl (does_copy (.tmp 19) (.tmp 20) 39 39 rfl 5 Tryd.underlying39 size_byte g3 0 8 512 (some ⟨g7, 0, none⟩) 8 8 rfl rfl 111 (bvs s) (bvs (be8 sum)) HB1.out.drew
      (rd_blk HB7.out.drew 0 8 _ (by rw [bvs_length, be8_length]; omega) (by rw [List.drop_zero, List.take_of_length_le (by rw [bvs_length, be8_length]; omega)])) (by omega) (by rw [HS.out]; omega) (bvs_one _)) ?_
                 rintro _ w12 ⟨rfl, hb, hf⟩
                 have hw12 : w11.heap.size ≤ w12.heap.size := hf.size
                 replace HB1 := Lib.hid hb
                 replace HB2 := Lib.hid (HB2.out.drew.fr hf (by omega)); replace HT := Lib.hid (HT.out.drew.step hf (fun k hk e => by omega))
                 clear hb hf HB7)
  have HX := Lib.hid (show put (bvs s) 0 (bvs (be8 sum)) = bvs (be8 sum ++ s.drop 8) by
    simp only [put, List.take_zero, List.nil_append, Nat.zero_add, bvs_length, be8_length]
    simp [bvs])
  rw [HX.out] at HB1
  have HL := Lib.hid (show (bvs (be8 sum ++ s.drop 8)).length = 512 by rw [bvs_length, List.length_append, be8_length, List.length_drop, HS'.out])
  generalize hout : be8 sum ++ s.drop 8 = out at *
  have HOUT := Lib.hid hout; clear hout
  clear HX
  go_wp2_with (first
    | (refine Does.list rfl (does_load 111 (.tmp 3) rfl g3 0 512 111 (bvs out) (.array 512 5) rfl HB1.out Tryd.underlying111 rfl size_sheet (by rw [HL.out]; omega)) ?_
       rintro _ _ ⟨rfl, rfl⟩
       rw [show List.take 512 (List.drop 0 (bvs out)) = bvs out from by rw [List.drop_zero, List.take_of_length_le (by rw [HL.out]; omega)]])
    | (refine Does.list rfl (does_store 111 (.tmp 4) (.tmp 22) rfl g4 0 111 (zeros 512) (bvs out) rfl rfl HB2.out (by rw [HL.out]; exact size_sheet) (by rw [HL.out, zeros_length]; omega) (bvs_one _)) ?_
       rintro _ w13 ⟨rfl, hb, hf⟩
       rw [put_all _ _ (by rw [HL.out, zeros_length])] at hb
       have HB13 := Lib.hid hb
       replace HT := Lib.hid (HT.out.step hf (fun k hk e => by omega))
       clear hb hf)
    | fail)
  refine bodyPost_ret (v := .agg (bvs out).toArray) ?_ rfl ⟨by rw [HSUM.out, HOUT.out], HT.out⟩
  exact results_cell_row (P := Tryd.prog) rfl _ _ g4 111 _ (0, 0) (.array 512 5) rfl HB13.out Tryd.underlying111 rfl (by rw [List.size_toArray, HL.out]; exact size_sheet)
end Go.Proofs.YthdlljlcffokbaaDoor
namespace Go.Proofs.YthdlljlcffokbaaDoor
open Go.RowKit

set_option maxHeartbeats 400000 in
theorem clone_any (A : Option Addr) (len cap : Nat) (xs : List Value) (w : World) (hm : len ≤ 140737488351232) (hr : Rd w A len xs) (h1 : ∀ u ∈ xs, u.oneCell' = true) (hN : A = none → cap = 0) :
    Calls Tryd.prog 67 #[.slice A len cap] w fun e w' => ∃ v, e = .returned v ∧ w'.ownsRow w.heap.size 5 1 v len xs ∧ Fr0 w w' := by
  have HR := Lib.hid hr
  have HN := Lib.hid hN
  have H1 := Lib.hid h1
  clear hr hN h1
  have hnil := fun (W : World) (a : Option Addr) (n c : Nat) => Lib.run_eql_slice_nil (P := Tryd.prog) W 39 5 a n c 0 0 Tryd.underlying39
  cases A with
  | none =>
    obtain rfl : cap = 0 := HN.out rfl
    have h0 : len = 0 := by
      rcases Nat.eq_zero_or_pos len with h | h
      · exact h
      · obtain ⟨_, _, e, _⟩ := HR.out.2 h; cases e
    subst h0
    go_enter Tryd.func67, Tryd.ntmps67
    go_wp2
    go_ret
    have hx : xs = [] := List.eq_nil_of_length_eq_zero HR.out.1
    subst hx
    exact ⟨_, rfl, World.ownsRow_nil w _ _ _, Fr.refl⟩
  | some a =>
    go_enter Tryd.func67, Tryd.ntmps67
    go_wp2_with (first
      | (at_builtin
         refine Does.list rfl (does_append (.tmp 5) (.tmp 6) 39 rfl w.heap.size 5 (.int .u8 0) 1 Tryd.underlying39 info_byte rfl _ 0 [] rfl (own_new0 w 5) (some a) len cap xs rfl (HR.out.fr0 (Fr.refl.alloc _)) H1.out (by unfold maxLen; omega) (by omega) (by simp)) ?_
         rintro v w1 ⟨ho, hg, _⟩
         have HO := Lib.hid ho
         have HF := Lib.hid (Fr.app (S := Nowhere) (Fr.refl.alloc _) (own_new0 w 5) (Nat.le_refl _) hg)
         clear ho hg)
      | fail)
    go_ret
    exact ⟨v, rfl, by simpa using HO.out, HF.out⟩

def blank8 (t : List UInt8) : List UInt8 := List.replicate 8 0 ++ t
theorem blank8_length (t : List UInt8) : (blank8 t).length = t.length + 8 := by simp [blank8]
theorem blank8_drop (t : List UInt8) : (blank8 t).drop 8 = t := by simp [blank8]
theorem blank8_page (n : Nat) (l : List UInt8) : be8 (pageSum n ((blank8 (tailOf l)).drop 8)) ++ (blank8 (tailOf l)).drop 8 = pageOf n l := by
  rw [blank8_drop]; rfl
theorem zeros_split (a b c : Nat) (h : a + (b + 2) + c = 512) : zeros 512 = zeros a ++ (.int .u8 0 :: .int .u8 0 :: (zeros b ++ zeros c)) := by
  unfold zeros
  rw [List.replicate_append_replicate, ← List.replicate_succ, ← List.replicate_succ, List.replicate_append_replicate]
  congr 1
  omega
theorem head_put (len : Nat) (l : List UInt8) (hl : l.length = len) (h : len ≤ 502) :
    put (((zeros 512).set 8 (.int .u8 ((len : Int) / 256))).set 9 (.int .u8 ((len : Int) % 256))) 10 (bvs l) = bvs (blank8 (tailOf l)) := by
  subst hl
  have e1 : bv (UInt8.ofNat (l.length / 256)) = .int .u8 ((l.length : Int) / 256) := by
    unfold bv; rw [toNat_ofNat8]; congr 1; omega
  have e2 : bv (UInt8.ofNat l.length) = .int .u8 ((l.length : Int) % 256) := by
    unfold bv; rw [toNat_ofNat8]
  have e0 : ∀ k, bvs (List.replicate k 0) = zeros k := fun k => by simp [bvs, bv, zeros]
  rw [zeros_split 8 l.length (502 - l.length) (by omega)]
  simp only [List.set_append_right _ _ (show (zeros 8).length ≤ 8 by rw [zeros_length]; omega), List.set_append_right _ _ (show (zeros 8).length ≤ 9 by rw [zeros_length]; omega), zeros_length, Nat.reduceSub, List.set_cons_zero, List.set_cons_succ]
  rw [← e1, ← e2]
  unfold tailOf
  generalize UInt8.ofNat (l.length / 256) = c1
  generalize UInt8.ofNat l.length = c2
  have ht : List.take 10 (zeros 8 ++ bv c1 :: bv c2 :: (zeros l.length ++ zeros (502 - l.length))) = zeros 8 ++ [bv c1, bv c2] := by
    rw [show (zeros 8 ++ bv c1 :: bv c2 :: (zeros l.length ++ zeros (502 - l.length))) = (zeros 8 ++ [bv c1, bv c2]) ++ (zeros l.length ++ zeros (502 - l.length)) from by simp]
    exact List.take_left' (by simp [zeros_length])
  have hd : List.drop (10 + l.length) (zeros 8 ++ bv c1 :: bv c2 :: (zeros l.length ++ zeros (502 - l.length))) = zeros (502 - l.length) := by
    rw [show (zeros 8 ++ bv c1 :: bv c2 :: (zeros l.length ++ zeros (502 - l.length))) = (zeros 8 ++ [bv c1, bv c2] ++ zeros l.length) ++ zeros (502 - l.length) from by simp]
    exact List.drop_left' (by simp [zeros_length]; omega)
  unfold put
  rw [bvs_length, ht, hd]
  unfold blank8
  rw [bvs_append, e0]
  show _ = zeros 8 ++ bvs (c1 :: c2 :: (l ++ List.replicate (502 - l.length) 0))
  rw [show c1 :: c2 :: (l ++ List.replicate (502 - l.length) 0) = [c1, c2] ++ (l ++ List.replicate (502 - l.length) 0) from rfl, bvs_append, bvs_append, e0]
  simp [bvs]

set_option maxHeartbeats 1000000 in
theorem encode_ok (n : Nat) (A : Option Addr) (len cap : Nat) (l : List UInt8) (w : World) (hn : n ≤ 16383) (hlen : len ≤ 502) (hr : Rd w A len (bvs l)) :
    Calls Tryd.prog 59 #[.int .i64 (n : Int), .slice A len cap] w fun e w' =>
      ∃ v, e = .returned (.tuple #[v, .int .i64 0]) ∧ w'.ownsRow w.heap.size 5 1 v 512 (bvs (pageOf n l)) ∧ Fr0 w w' := by
  have HR := Lib.hid hr
  have HL := Lib.hid (show l.length = len by rw [← bvs_length, hr.1])
  have HS := Lib.hid (show (bvs (blank8 (tailOf l))).length = 512 by rw [bvs_length, blank8_length, tailOf_length l (by rw [HL.out]; exact hlen)])
  clear hr
  go_enter Tryd.func59, Tryd.ntmps59
  go_wp2_with (first
    | (refine Does.list rfl (does_alloc 111 rfl _ (zeros 512) info_sheet rfl) ?_
       rintro _ w1 ⟨g, rfl, hg, hg', hb, hf⟩
       have HB := Lib.hid hb; have HT := Lib.hid hf; clear hb hf)
    | (refine Does.list rfl (does_store1 5 (.tmp 25) (.tmp 21) rfl g 8 111 (zeros 512) (.int .u8 ((len : Int) / 256)) rfl rfl rfl HB.out size_byte (by rw [zeros_length]; omega) rfl) ?_
       rintro _ w2 ⟨rfl, hb, hf⟩
       have hw2 : w1.heap.size ≤ w2.heap.size := hf.size
       replace HB := Lib.hid hb; replace HT := Lib.hid (HT.out.step hf (fun k hk e => by omega)); clear hb hf)
    | (refine Does.list rfl (does_store1 5 (.tmp 26) (.tmp 24) rfl g 9 111 _ (.int .u8 ((len : Int) % 256)) rfl rfl rfl HB.out size_byte (by rw [List.length_set, zeros_length]; omega) rfl) ?_
       rintro _ w3 ⟨rfl, hb, hf⟩
       have hw3 : w2.heap.size ≤ w3.heap.size := hf.size
       replace HB := Lib.hid hb; replace HT := Lib.hid (HT.out.step hf (fun k hk e => by omega)); clear hb hf)
    | (refine Does.list rfl (does_copy (.tmp 27) (.tmp 28) 39 39 rfl 5 Tryd.underlying39 size_byte g 10 502 502 A len cap rfl rfl 111 _ (bvs l) HB.out
         (HR.out.fr0 HT.out) (by omega) (by rw [List.length_set, List.length_set, zeros_length]; omega) (bvs_one _)) ?_
       rintro _ w4 ⟨rfl, hb, hf⟩
       have hw4 : w3.heap.size ≤ w4.heap.size := hf.size
       rw [head_put len l (HL.out) hlen] at hb
       replace HB := Lib.hid hb; replace HT := Lib.hid (HT.out.step hf (fun k hk e => by omega)); clear hb hf)
    | (refine Does.list rfl (does_load 111 (.tmp 6) rfl g 0 512 111 (bvs (blank8 (tailOf l))) (.array 512 5) rfl HB.out Tryd.underlying111 rfl size_sheet (by rw [HS.out]; omega)) ?_
       rintro _ _ ⟨rfl, rfl⟩
       rw [show List.take 512 (List.drop 0 (bvs (blank8 (tailOf l)))) = bvs (blank8 (tailOf l)) from by rw [List.drop_zero, List.take_of_length_le (by rw [HS.out]; omega)]])
    | fail)
  refine (sealed_any n (blank8 (tailOf l)) _ hn (by rw [← bvs_length, HS.out])).mono ?_
  rintro e w5 ⟨rfl, hf⟩
  rw [blank8_page n l]
  have hw5 : w4.heap.size ≤ w5.heap.size := hf.size
  replace HB := Lib.hid (HB.out.fr0 hf); replace HT := Lib.hid (HT.out.then0 hf); clear hf
  have HP := Lib.hid (show (bvs (pageOf n l)).length = 512 by rw [bvs_length, pageOf_length n l (by rw [HL.out]; exact hlen)])
  generalize hp : pageOf n l = pg at *
  have HPG := Lib.hid hp
  clear hp
  go_wp2_with (first
    | (refine Does.list rfl (does_store 111 (.tmp 6) (.tmp 32) rfl g 0 111 (bvs (blank8 (tailOf l))) (bvs pg) rfl rfl HB.out (by rw [HP.out]; exact size_sheet) (by rw [HP.out, HS.out]; omega) (bvs_one _)) ?_
       rintro _ w6 ⟨rfl, hb, hf⟩
       rw [put_all _ _ (by rw [HP.out, HS.out])] at hb
       have hw6 : w5.heap.size ≤ w6.heap.size := hf.size
       replace HB := Lib.hid hb; replace HT := Lib.hid (HT.out.step hf (fun k hk e => by omega)); clear hb hf)
    | fail)
  refine (clone_any (some ⟨g, 0, none⟩) 512 512 (bvs pg) _ (by omega) (rd_blk HB.out 0 512 _ (by rw [HP.out]; omega) (by rw [List.drop_zero, List.take_of_length_le (by rw [HP.out]; omega)])) (bvs_one _) (by simp)).mono ?_
  rintro e w7 ⟨v, rfl, ho, hf⟩
  have HO := Lib.hid (own_base ho HT.out.size); replace HT := Lib.hid (HT.out.then0 hf); clear ho hf
  go_wp2
  go_ret2
  exact ⟨v, rfl, by rw [HPG.out]; exact HO.out, HT.out⟩

end Go.Proofs.YthdlljlcffokbaaDoor
namespace Go.Proofs.YthdlljlcffokbaaDoor
open Go.RowKit

/-- How many bytes stay when zeros are taken off the end. -/
def rn : List UInt8 → Nat
  | [] => 0
  | c :: l => if rn l = 0 then (if c = 0 then 0 else 1) else rn l + 1
/-- How many zeros it begins with. -/
def lz : List UInt8 → Nat
  | [] => 0
  | c :: l => if c = 0 then lz l + 1 else 0
theorem rn_le (l : List UInt8) : rn l ≤ l.length := by
  induction l with
  | nil => simp [rn]
  | cons c l ih => simp only [rn, List.length_cons]; split <;> (try split) <;> omega
theorem rn_zero {l : List UInt8} : rn l = 0 ↔ ∀ c ∈ l, c = 0 := by
  induction l with
  | nil => simp [rn]
  | cons c l ih =>
    simp only [rn, List.mem_cons, forall_eq_or_imp]
    by_cases h : rn l = 0
    · rw [if_pos h]
      by_cases hc : c = 0
      · simpa [hc] using ih.1 h
      · simp [hc]
    · rw [if_neg h]
      constructor
      · intro hh; omega
      · intro hh; exact absurd (ih.2 hh.2) h
theorem rn_last {l : List UInt8} {n : Nat} (h : rn l = n + 1) : ∃ c, l[n]? = some c ∧ c ≠ 0 := by
  induction l generalizing n with
  | nil => simp [rn] at h
  | cons c l ih =>
    simp only [rn] at h
    by_cases h0 : rn l = 0
    · rw [if_pos h0] at h
      by_cases hc : c = 0
      · rw [if_pos hc] at h; omega
      · rw [if_neg hc] at h
        obtain rfl : n = 0 := by omega
        exact ⟨c, rfl, hc⟩
    · rw [if_neg h0] at h
      obtain ⟨m, rfl⟩ : ∃ m, n = m + 1 := ⟨n - 1, by omega⟩
      obtain ⟨d, hd, hne⟩ := ih (n := m) (by omega)
      exact ⟨d, by simpa using hd, hne⟩
theorem rn_behind {l : List UInt8} {j : Nat} {c : UInt8} (h : rn l ≤ j) (hc : l[j]? = some c) : c = 0 := by
  induction l generalizing j with
  | nil => simp at hc
  | cons d l ih =>
    simp only [rn] at h
    by_cases h0 : rn l = 0
    · rw [if_pos h0] at h
      by_cases hd : d = 0
      · have : ∀ x ∈ d :: l, x = 0 := by
          intro x hx
          rcases List.mem_cons.1 hx with rfl | hx
          · exact hd
          · exact rn_zero.1 h0 x hx
        exact this c (List.mem_of_getElem? hc)
      · rw [if_neg hd] at h
        obtain ⟨m, rfl⟩ : ∃ m, j = m + 1 := ⟨j - 1, by omega⟩
        exact rn_zero.1 h0 c (List.mem_of_getElem? (by simpa using hc))
    · rw [if_neg h0] at h
      obtain ⟨m, rfl⟩ : ∃ m, j = m + 1 := ⟨j - 1, by omega⟩
      exact ih (j := m) (by omega) (by simpa using hc)
theorem lz_before {l : List UInt8} {j : Nat} {c : UInt8} (h : j < lz l) (hc : l[j]? = some c) : c = 0 := by
  induction l generalizing j with
  | nil => simp at hc
  | cons d l ih =>
    simp only [lz] at h
    by_cases hd : d = 0
    · rw [if_pos hd] at h
      cases j with
      | zero => simp at hc; rw [← hc]; exact hd
      | succ j => exact ih (j := j) (by omega) (by simpa using hc)
    · rw [if_neg hd] at h; omega
theorem lz_at {l : List UInt8} {c : UInt8} (hc : l[lz l]? = some c) : c ≠ 0 := by
  induction l with
  | nil => simp at hc
  | cons d l ih =>
    simp only [lz] at hc
    by_cases hd : d = 0
    · rw [if_pos hd] at hc; exact ih (by simpa using hc)
    · rw [if_neg hd] at hc; simp at hc; rw [← hc]; exact hd
theorem lz_lt_rn {l : List UInt8} (h : 0 < rn l) : lz l < rn l := by
  obtain ⟨n, hn⟩ : ∃ n, rn l = n + 1 := ⟨rn l - 1, by omega⟩
  obtain ⟨c, hc, hne⟩ := rn_last hn
  rcases Nat.lt_or_ge n (lz l) with hh | hh
  · exact absurd (lz_before hh hc) hne
  · omega

theorem Rd.sub {w : World} {b off len : Nat} {xs : List Value} (h : Rd w (some ⟨b, off, none⟩) len xs) (k m : Nat) (hk : k + m ≤ len) : Rd w (some ⟨b, off + k, none⟩) m ((xs.drop k).take m) := by
  refine ⟨by have := h.1; simp; omega, fun h0 => ⟨b, off + k, rfl, fun j u hu => ?_⟩⟩
  obtain ⟨b', off', e, hc⟩ := h.2 (by omega)
  injection e with e; injection e with e1 e2 _; subst e1; subst e2
  simp only [List.getElem?_take, List.getElem?_drop] at hu
  split at hu
  · rw [Nat.add_assoc]; exact hc _ u hu
  · cases hu
theorem rd_byte {w : World} {b off len : Nat} {l : List UInt8} (hr : Rd w (some ⟨b, off, none⟩) len (bvs l)) {k : Nat} {c : UInt8} (hc : l[k]? = some c) : w.cell? ⟨b, off + k, none⟩ = some (.int .u8 (c.toNat : Int)) := by
  have hl : l.length = len := by rw [← bvs_length, hr.1]
  have hk : k < len := by rw [← hl]; exact (List.getElem?_eq_some_iff.1 hc).1
  obtain ⟨b', off', e, u, hu, hcell⟩ := hr.at_ hk
  injection e with e; injection e with e1 e2 _; subst e1; subst e2
  rw [bvs_getElem?, hc] at hu
  rw [hcell, ← hu]; rfl

set_option maxHeartbeats 400000 in
theorem trimRight_any (b off len cap : Nat) (l : List UInt8) (w : World) (_hm : len ≤ 140737488351232) (hcap : len ≤ cap) (hr : Rd w (some ⟨b, off, none⟩) len (bvs l)) :
    Calls Tryd.prog 73 #[.slice (some ⟨b, off, none⟩) len cap, .int .u8 0] w fun e w' => e = .returned (.slice (some ⟨b, off, none⟩) (rn l) cap) ∧ w = w' := by
  have HL := Lib.hid (show l.length = len by rw [← bvs_length, hr.1])
  have HR := Lib.hid hr
  have hrl : rn l ≤ len := by rw [← HL.out]; exact rn_le l
  clear hr
  go_enter Tryd.func73, Tryd.ntmps73
  go_wp2
  go_loop [0] (fun s => ∃ n : Nat, rn l ≤ n ∧ n ≤ len ∧ s = .slice (some ⟨b, off, none⟩) n cap) (fun s => sliceLen s)
  case atStart => exact ⟨len, hrl, Nat.le_refl _, rfl⟩
  case round =>
    obtain ⟨n, hn1, hn2, rfl⟩ := hrel
    by_cases h0 : n = 0
    · subst h0
      have hz : Hid (rn l = 0) := Lib.hid (by omega)
      go_wp2
      go_ret
      exact ⟨by rw [hz.out]; rfl, rfl⟩
    · obtain ⟨k, rfl⟩ : ∃ k, n = k + 1 := ⟨n - 1, by omega⟩
      obtain ⟨c, hc⟩ : ∃ c, l[k]? = some c := ⟨_, List.getElem?_eq_getElem (by rw [HL.out]; omega)⟩
      have HC := Lib.hid hc
      have hcell := rd_byte HR.out hc
      clear hc h0
      by_cases hlt : rn l < k + 1
      · obtain rfl : c = 0 := rn_behind (by omega) HC.out
        have h0 : ((0 : UInt8).toNat : Int) = 0 := rfl
        rw [h0] at hcell
        clear h0
        have hb : 0 < cap := by omega
        go_wp2
        go_round
        case rel => exact ⟨k, by omega, by omega, rfl⟩
        case measure => simp [sliceLen]
      · have HN := Lib.hid (show rn l = k + 1 by omega)
        obtain ⟨d, hd, hne⟩ := rn_last HN.out
        rw [HC.out] at hd
        obtain rfl : c = d := by simpa using hd
        have hcz : ((c.toNat : Int) == 0) = false := by
          rw [beq_eq_false_iff_ne]; intro h; exact hne (UInt8.toNat_inj.1 (by simpa using h))
        clear hd hne
        go_wp2
        go_ret
        exact ⟨by rw [HN.out]; rfl, rfl⟩

set_option maxHeartbeats 400000 in
theorem trimLeft_some (b off n cap : Nat) (l : List UInt8) (w : World) (_hm : n ≤ 140737488351232) (hcap : n ≤ cap) (hl : n ≤ l.length) (hz : lz l < n) (hr : Rd w (some ⟨b, off, none⟩) l.length (bvs l)) :
    Calls Tryd.prog 72 #[.slice (some ⟨b, off, none⟩) n cap, .int .u8 0] w fun e w' => e = .returned (.slice (some ⟨b, off + lz l, none⟩) (n - lz l) (cap - lz l)) ∧ w = w' := by
  have HR := Lib.hid hr
  clear hr
  go_enter Tryd.func72, Tryd.ntmps72
  go_wp2
  go_loop [0] (fun s => ∃ k : Nat, k ≤ lz l ∧ s = .slice (some ⟨b, off + k, none⟩) (n - k) (cap - k)) (fun s => sliceLen s)
  case atStart => exact ⟨0, Nat.zero_le _, rfl⟩
  case round =>
    obtain ⟨k, hk, rfl⟩ := hrel
    obtain ⟨c, hc⟩ : ∃ c, l[k]? = some c := ⟨_, List.getElem?_eq_getElem (by omega)⟩
    have HC := Lib.hid hc
    have hcell := rd_byte HR.out hc
    clear hc
    obtain ⟨m, hm'⟩ : ∃ m, n - k = m + 1 := ⟨n - k - 1, by omega⟩
    obtain ⟨q, hq'⟩ : ∃ q, cap - k = q + 1 := ⟨cap - k - 1, by omega⟩
    have HM := Lib.hid hm'
    have HQ := Lib.hid hq'
    have hmb : m + 1 ≤ n := by omega
    have hqm : m ≤ q := by omega
    rw [hm', hq']
    clear hm' hq'
    by_cases hlt : k < lz l
    · obtain rfl : c = 0 := lz_before hlt HC.out
      have h0 : ((0 : UInt8).toNat : Int) = 0 := rfl
      rw [h0] at hcell
      clear h0
      have hq0 : ¬ q = 0 := by have := HM.out; have := HQ.out; omega
      go_wp2
      go_round
      case rel =>
        refine ⟨k + 1, by omega, ?_⟩
        have h1 := HM.out
        have h2 := HQ.out
        rw [show n - (k + 1) = m from by omega, show cap - (k + 1) = q from by omega, Nat.add_assoc]
      case measure => simp [sliceLen]
    · have HK := Lib.hid (show k = lz l by omega)
      have hcz : ((c.toNat : Int) == 0) = false := by
        have hne := lz_at (l := l) (c := c) (by rw [← HK.out]; exact HC.out)
        rw [beq_eq_false_iff_ne]; intro h; exact hne (UInt8.toNat_inj.1 (by simpa using h))
      go_wp2
      go_ret
      refine ⟨?_, rfl⟩
      rw [← HK.out, HM.out, HQ.out]; rfl

theorem trimLeft_none (A : Option Addr) (cap : Nat) (w : World) :
    Calls Tryd.prog 72 #[.slice A 0 cap, .int .u8 0] w fun e w' => e = .returned (.slice none 0 0) ∧ w = w' := by
  go_enter Tryd.func72, Tryd.ntmps72
  go_wp2
  refine wp_loop_rounds 1 ?_
  rw [rounds_succ]
  go_wp2
  go_ret
  exact ⟨rfl, rfl⟩

/-- What is left of a row when zeros are taken off both ends. -/
def trimV (b off cap : Nat) (l : List UInt8) : Value :=
  if rn l = 0 then .slice none 0 0 else .slice (some ⟨b, off + lz l, none⟩) (rn l - lz l) (cap - lz l)
theorem trimLeft_any (b off cap : Nat) (l : List UInt8) (w : World) (hm : l.length ≤ 140737488351232) (hcap : l.length ≤ cap) (hr : Rd w (some ⟨b, off, none⟩) l.length (bvs l)) :
    Calls Tryd.prog 72 #[.slice (some ⟨b, off, none⟩) (rn l) cap, .int .u8 0] w fun e w' => e = .returned (trimV b off cap l) ∧ w = w' := by
  have hle := rn_le l
  unfold trimV
  by_cases h : rn l = 0
  · rw [if_pos h, h]
    exact trimLeft_none _ _ w
  · rw [if_neg h]
    exact trimLeft_some b off (rn l) cap l w (by omega) (by omega) hle (lz_lt_rn (by omega)) hr

set_option maxRecDepth 100000 in
set_option maxHeartbeats 400000 in
theorem trim_some (b off cap : Nat) (l : List UInt8) (w : World) (hm : l.length ≤ 140737488351232) (hcap : l.length ≤ cap) (h0 : 0 < l.length) (hr : Rd w (some ⟨b, off, none⟩) l.length (bvs l)) :
    Calls Tryd.prog 69 #[.slice (some ⟨b, off, none⟩) l.length cap, .string ⟨#[0]⟩] w fun e w' => e = .returned (trimV b off cap l) ∧ ∃ m, w' = w.drewN m := by
  have HR := Lib.hid hr
  have hl0 : ((l.length : Int) == 0) = false := by rw [beq_eq_false_iff_ne]; omega
  clear hr
  go_enter Tryd.func69, Tryd.ntmps69
  go_wp2_with fail
  go_quiet ((first
    | (go_at_call 73; exact Calls.quiet_of_same ((trimRight_any b off l.length cap l _ hm hcap (HR.out.drewN _)).mono fun _ _ ⟨h1, h2⟩ => ⟨h1, h2.symm⟩))
    | (go_at_call 72; exact Calls.quiet_of_same ((trimLeft_any b off cap l _ hm hcap (HR.out.drewN _)).mono fun _ _ ⟨h1, h2⟩ => ⟨h1, h2.symm⟩))))
  go_wp2
  go_ret
  exact ⟨rfl, _, rfl⟩
theorem trim_none (A : Option Addr) (cap : Nat) (w : World) :
    Calls Tryd.prog 69 #[.slice A 0 cap, .string ⟨#[0]⟩] w fun e w' => e = .returned (.slice none 0 0) ∧ ∃ m, w' = w.drewN m := by
  go_enter Tryd.func69, Tryd.ntmps69
  go_wp2
  go_ret
  exact ⟨rfl, 0, rfl⟩

/-- What Trim hands back, whatever slice. -/
def trimA (A : Option Addr) (cap : Nat) (l : List UInt8) : Value :=
  if rn l = 0 then .slice none 0 0 else match A with | some a => .slice (some ⟨a.block, a.off + lz l, none⟩) (rn l - lz l) (cap - lz l) | none => .slice none 0 0
theorem trim_any (A : Option Addr) (len cap : Nat) (l : List UInt8) (w : World) (hm : len ≤ 140737488351232) (hcap : len ≤ cap) (hr : Rd w A len (bvs l)) :
    Calls Tryd.prog 69 #[.slice A len cap, .string ⟨#[0]⟩] w fun e w' => e = .returned (trimA A cap l) ∧ ∃ m, w' = w.drewN m := by
  have hl : l.length = len := by rw [← bvs_length, hr.1]
  subst hl
  rcases Nat.eq_zero_or_pos l.length with h0 | h0
  · obtain rfl : l = [] := List.eq_nil_of_length_eq_zero h0
    exact trim_none A cap w
  · obtain ⟨b, off, rfl, _⟩ := hr.2 h0
    exact trim_some b off cap l w hm hcap h0 hr
theorem run_sliceFrom {P : Program} (w : World) (t e : TypeId) (ht : P.underlying t = some (.slice e)) (hs : (P.info? e).map (·.size) = some 1) (A : Option Addr) (len cap k : Nat) (h : k ≤ len) :
    (Instr.sliceAt t (.slice A len cap) (some (.int .i64 (k : Int))) none none).run P w = .ok (.slice (if cap = k then A else A.map (·.add k)) (len - k) (cap - k)) w := by
  have hsz : (sizeOf e).run P w = .ok 1 w := by
    cases hq : P.info? e with
    | none => simp [hq] at hs
    | some i =>
      have h1 : i.size = 1 := by simpa [hq] using hs
      simp [sizeOf, typeInfo, hq, h1]
  have hk : (0 : Int) ≤ (k : Int) ∧ (k : Int) ≤ (len : Int) := by omega
  simp [Instr.sliceAt, Instr.slice, run_underlying ht, Instr.sliceBounds, Instr.sliceBound, asIntOf, hk, hsz]
  omega
theorem exec_sliceFrom {P : Program} {ρ : Operand → Value} {o : Oper} {w : World} (t e : TypeId) (x lo : Operand) (ho : o.op = .slice t x (some lo) none none) (A : Option Addr) (len cap k : Nat) (z : Int)
    (hx : ρ x = .slice A len cap) (hlo : ρ lo = .int .i64 z) (hz : z = (k : Int)) (ht : P.underlying t = some (.slice e)) (hs : (P.info? e).map (·.size) = some 1) (h : k ≤ len) :
    (execOp ρ o).run P w = .ok (.value (.slice (if cap = k then A else A.map (·.add k)) (len - k) (cap - k))) w := by
  subst hz
  have := run_sliceFrom (P := P) w t e ht hs A len cap k h
  unfold execOp
  simp only [ho, hx, Option.map_some, Option.map_none, hlo, Sem.run_bind, this, Result.andThen_ok, Sem.run_pure]
end Go.Proofs.YthdlljlcffokbaaDoor
namespace Go.Proofs.YthdlljlcffokbaaDoor
open Go.RowKit

def longOf (p : List UInt8) : Nat := (p.getD 8 0).toNat * 256 + (p.getD 9 0).toNat
def DecOk (n : Nat) (p : List UInt8) : Prop := longOf p ≤ 502 ∧ be8 (pageSum n (p.drop 8)) ++ p.drop 8 = p ∧ ∀ c ∈ p.drop (10 + longOf p), c = 0

theorem or_eq (a b : Nat) (ha : a < 256) (hb : b < 256) : bits BinOp.or IntKind.i64 ((a : Int) * 256) (b : Int) = ((a * 256 + b : Nat) : Int) := by
  have h1 : (BitVec.ofInt 64 ((a : Int) * 256)).toNat = a * 256 := by
    rw [show ((a : Int) * 256) = ((a * 256 : Nat) : Int) from by omega, BitVec.ofInt_natCast, BitVec.toNat_ofNat]; omega
  have h2 : (BitVec.ofInt 64 (b : Int)).toNat = b := by
    rw [BitVec.ofInt_natCast, BitVec.toNat_ofNat]; omega
  show IntKind.i64.wrap ((BitVec.ofInt 64 ((a : Int) * 256) ||| BitVec.ofInt 64 (b : Int)).toNat : Int) = _
  rw [BitVec.toNat_or, h1, h2, show a * 256 = 2 ^ 8 * a from by omega, ← Nat.two_pow_add_eq_or_of_lt (by simpa using hb), IntKind.wrap_i64]
  omega

set_option maxRecDepth 100000 in
set_option maxHeartbeats 2000000 in
theorem decode_long (n b off cap : Nat) (p : List UInt8) (w : World) (hn : n ≤ 16383) (hp : p.length = 512) (_hcap : 512 ≤ cap) (hr : Rd w (some ⟨b, off, none⟩) 512 (bvs p)) (hyp : 502 < longOf p) :
    Calls Tryd.prog 64 #[.int .i64 (n : Int), .slice (some ⟨b, off, none⟩) 512 cap] w fun e w' =>
      e = .returned (.tuple #[.slice none 0 0, .int .i64 30]) ∧ Fr0 w w' := by
  have HR := Lib.hid hr
  have HP := Lib.hid hp
  clear hr hp
  obtain ⟨c8, h8⟩ : ∃ c, p[8]? = some c := ⟨_, List.getElem?_eq_getElem (by rw [HP.out]; omega)⟩
  obtain ⟨c9, h9⟩ : ∃ c, p[9]? = some c := ⟨_, List.getElem?_eq_getElem (by rw [HP.out]; omega)⟩
  have hcell8 := rd_byte HR.out h8
  have hcell9 := rd_byte HR.out h9
  have HLG := Lib.hid (show longOf p = c8.toNat * 256 + c9.toNat by simp [longOf, List.getD, h8, h9])
  have hb8 : c8.toNat < 256 := c8.toNat_lt
  have hb9 : c9.toNat < 256 := c9.toNat_lt
  have HY := Lib.hid hyp
  clear h8 h9 hyp
  go_enter Tryd.func64, Tryd.ntmps64
  go_wp2_with fail
  go_quiet (fail)
  go_wp2_with fail
  rw [or_eq c8.toNat c9.toNat hb8 hb9, ← HLG.out]
  clear hcell8 hcell9 hb8 hb9 HLG
  generalize hm : longOf p = m at *
  have HM := Lib.hid hm
  clear hm
  have hlong := HY.out
  have hd : decide ((502 : Int) < (m : Int)) = true := by simp; omega
  have hd' : ((502 : Int) < (m : Int)) = True := by simp; omega
  go_quiet (fail)
  go_wp2
  go_ret2
  exact ⟨rfl, ((Fr.refl.drewN _).drewN _)⟩

set_option maxRecDepth 100000 in
set_option maxHeartbeats 2000000 in
theorem decode_sum (n b off cap : Nat) (p : List UInt8) (w : World) (hn : n ≤ 16383) (hp : p.length = 512) (_hcap : 512 ≤ cap) (hr : Rd w (some ⟨b, off, none⟩) 512 (bvs p)) (hyp : longOf p ≤ 502 ∧ be8 (pageSum n (p.drop 8)) ++ p.drop 8 ≠ p) :
    Calls Tryd.prog 64 #[.int .i64 (n : Int), .slice (some ⟨b, off, none⟩) 512 cap] w fun e w' =>
      e = .returned (.tuple #[.slice none 0 0, .int .i64 30]) ∧ Fr0 w w' := by
  have HR := Lib.hid hr
  have HP := Lib.hid hp
  clear hr hp
  obtain ⟨c8, h8⟩ : ∃ c, p[8]? = some c := ⟨_, List.getElem?_eq_getElem (by rw [HP.out]; omega)⟩
  obtain ⟨c9, h9⟩ : ∃ c, p[9]? = some c := ⟨_, List.getElem?_eq_getElem (by rw [HP.out]; omega)⟩
  have hcell8 := rd_byte HR.out h8
  have hcell9 := rd_byte HR.out h9
  have HLG := Lib.hid (show longOf p = c8.toNat * 256 + c9.toNat by simp [longOf, List.getD, h8, h9])
  have hb8 : c8.toNat < 256 := c8.toNat_lt
  have hb9 : c9.toNat < 256 := c9.toNat_lt
  have HY := Lib.hid hyp
  clear h8 h9 hyp
  go_enter Tryd.func64, Tryd.ntmps64
  go_wp2_with fail
  go_quiet (fail)
  go_wp2_with fail
  rw [or_eq c8.toNat c9.toNat hb8 hb9, ← HLG.out]
  clear hcell8 hcell9 hb8 hb9 HLG
  generalize hm : longOf p = m at *
  have HM := Lib.hid hm
  clear hm
  have hd : decide ((502 : Int) < (m : Int)) = false := by have := HY.out.1; simp; omega
  obtain ⟨X, F, hne, hF, hFi, x0, hx0⟩ := family0 w (w.drewN nq) (Fr.refl.drewN _)
  have HF := Lib.hid hF
  have HFI := Lib.hid hFi
  refine wp_region_fam F (by kernel_rfl) (by kernel_rfl) x0 hx0 ?_
  clear hF hFi hx0
  have harr := fun W : World => run_arrayAt (P := Tryd.prog) W 111 5 512 Tryd.underlying111 (some ⟨b, off, none⟩) 512 cap (Nat.le_refl _)
  iterate 6 (refine wpQuiet_step (fun K hK => ?_); go_simp; refine hK _ ?_; clear hK K)
  refine wpQuiet_val (v := .agg (bvs p).toArray) rfl (fun x => exec_loadRd 111 (.tmp 33) rfl b off 512 (bvs p) (.array 512 5) rfl (HR.out.fr0 (HF.out x)) Tryd.underlying111 rfl size_sheet) ?_
  refine wpQuiet_step (fun K hK => ?_)
  go_simp
  apply Exists.intro
  refine ⟨fun x => ?_, hK _ ?_⟩
  · exact (sealed_any n p (F x) hn HP.out).mono fun e w' ⟨h1, h2⟩ => ⟨h1, HFI.out _ ((HF.out x).then0 h2)⟩
  clear hK K
  iterate 2 (refine wpQuiet_step (fun K hK => ?_); go_simp; refine hK _ ?_; clear hK K)
  refine wpQuiet_val (v := .agg (bvs p).toArray) rfl (fun x => exec_loadRd 111 (.tmp 37) rfl b off 512 (bvs p) (.array 512 5) rfl (HR.out.fr0 (HF.out x)) Tryd.underlying111 rfl size_sheet) ?_
  clear harr
  have heq := fun W : World => run_equalIn_bytes (P := Tryd.prog) W 9998 111 5 512 Tryd.underlying111 Tryd.underlying5 size_byte (be8 (pageSum n (p.drop 8)) ++ p.drop 8) p (by rw [List.length_append, be8_length, List.length_drop, HP.out]) HP.out
  have heg : Tryd.prog.eqGuardType Tryd.prog.depth 111 = false := by kernel_rfl
  generalize hsl : be8 (pageSum n (p.drop 8)) ++ p.drop 8 = sl at *
  have HSL := Lib.hid hsl
  clear hsl
  have hs : (sl == p) = false := by simpa using HY.out.2
  rw [hs] at heq
  refine wpQuiet_step (fun K hK => ?_)
  go_simp
  refine hK _ ?_
  clear hK K heq heg hs
  iterate 10 (refine wpQuiet_step (fun K hK => ?_); go_simp; refine hK _ ?_; clear hK K)
  refine wpQuiet_nil ?_
  rintro _ ⟨x, rfl⟩
  go_wp2
  go_ret2
  exact ⟨rfl, HF.out x⟩

set_option maxRecDepth 100000 in
set_option maxHeartbeats 2000000 in
theorem decode_tail (n b off cap : Nat) (p : List UInt8) (w : World) (hn : n ≤ 16383) (hp : p.length = 512) (hcap : 512 ≤ cap) (hr : Rd w (some ⟨b, off, none⟩) 512 (bvs p)) (hyp : longOf p ≤ 502 ∧ be8 (pageSum n (p.drop 8)) ++ p.drop 8 = p ∧ ¬ ∀ c ∈ p.drop (10 + longOf p), c = 0) :
    Calls Tryd.prog 64 #[.int .i64 (n : Int), .slice (some ⟨b, off, none⟩) 512 cap] w fun e w' =>
      e = .returned (.tuple #[.slice none 0 0, .int .i64 30]) ∧ Fr0 w w' := by
  have HR := Lib.hid hr
  have HP := Lib.hid hp
  clear hr hp
  obtain ⟨c8, h8⟩ : ∃ c, p[8]? = some c := ⟨_, List.getElem?_eq_getElem (by rw [HP.out]; omega)⟩
  obtain ⟨c9, h9⟩ : ∃ c, p[9]? = some c := ⟨_, List.getElem?_eq_getElem (by rw [HP.out]; omega)⟩
  have hcell8 := rd_byte HR.out h8
  have hcell9 := rd_byte HR.out h9
  have HLG := Lib.hid (show longOf p = c8.toNat * 256 + c9.toNat by simp [longOf, List.getD, h8, h9])
  have hb8 : c8.toNat < 256 := c8.toNat_lt
  have hb9 : c9.toNat < 256 := c9.toNat_lt
  have HY := Lib.hid hyp
  clear h8 h9 hyp
  go_enter Tryd.func64, Tryd.ntmps64
  go_wp2_with fail
  go_quiet (fail)
  go_wp2_with fail
  rw [or_eq c8.toNat c9.toNat hb8 hb9, ← HLG.out]
  clear hcell8 hcell9 hb8 hb9 HLG
  generalize hm : longOf p = m at *
  have HM := Lib.hid hm
  clear hm
  have hd : decide ((502 : Int) < (m : Int)) = false := by have := HY.out.1; simp; omega
  obtain ⟨X, F, hne, hF, hFi, x0, hx0⟩ := family0 w (w.drewN nq) (Fr.refl.drewN _)
  have HF := Lib.hid hF
  have HFI := Lib.hid hFi
  refine wp_region_fam F (by kernel_rfl) (by kernel_rfl) x0 hx0 ?_
  clear hF hFi hx0
  have harr := fun W : World => run_arrayAt (P := Tryd.prog) W 111 5 512 Tryd.underlying111 (some ⟨b, off, none⟩) 512 cap (Nat.le_refl _)
  iterate 6 (refine wpQuiet_step (fun K hK => ?_); go_simp; refine hK _ ?_; clear hK K)
  refine wpQuiet_val (v := .agg (bvs p).toArray) rfl (fun x => exec_loadRd 111 (.tmp 33) rfl b off 512 (bvs p) (.array 512 5) rfl (HR.out.fr0 (HF.out x)) Tryd.underlying111 rfl size_sheet) ?_
  refine wpQuiet_step (fun K hK => ?_)
  go_simp
  apply Exists.intro
  refine ⟨fun x => ?_, hK _ ?_⟩
  · exact (sealed_any n p (F x) hn HP.out).mono fun e w' ⟨h1, h2⟩ => ⟨h1, HFI.out _ ((HF.out x).then0 h2)⟩
  clear hK K
  iterate 2 (refine wpQuiet_step (fun K hK => ?_); go_simp; refine hK _ ?_; clear hK K)
  refine wpQuiet_val (v := .agg (bvs p).toArray) rfl (fun x => exec_loadRd 111 (.tmp 37) rfl b off 512 (bvs p) (.array 512 5) rfl (HR.out.fr0 (HF.out x)) Tryd.underlying111 rfl size_sheet) ?_
  clear harr
  have heq := fun W : World => run_equalIn_bytes (P := Tryd.prog) W 9998 111 5 512 Tryd.underlying111 Tryd.underlying5 size_byte (be8 (pageSum n (p.drop 8)) ++ p.drop 8) p (by rw [List.length_append, be8_length, List.length_drop, HP.out]) HP.out
  have heg : Tryd.prog.eqGuardType Tryd.prog.depth 111 = false := by kernel_rfl
  generalize hsl : be8 (pageSum n (p.drop 8)) ++ p.drop 8 = sl at *
  have HSL := Lib.hid hsl
  clear hsl
  have hs : (sl == p) = true := by simpa using HY.out.2.1
  rw [hs] at heq
  refine wpQuiet_step (fun K hK => ?_)
  go_simp
  refine hK _ ?_
  clear hK K heq heg hs
  have hm5 : m ≤ 502 := HY.out.1
  have hw1 : IntKind.i64.wrap (10 + (m : Int)) = 10 + (m : Int) := IntWalk.i64_in _ (by omega)
  iterate 5 (refine wpQuiet_step (fun K hK => ?_); go_simp; refine hK _ ?_; clear hK K)
  have HRD := Lib.hid (HR.out.cut (k := 10 + m) (cap := cap) (by omega) hcap)
  refine wpQuiet_val (v := .slice (if cap = 10 + m then (some ⟨b, off, none⟩ : Option Addr) else (some ⟨b, off, none⟩ : Option Addr).map (·.add (10 + m))) (512 - (10 + m)) (cap - (10 + m))) rfl (fun x => exec_sliceFrom 39 5 (.tmp 42) (.tmp 44) rfl (some ⟨b, off, none⟩) 512 cap (10 + m) (10 + (m : Int)) rfl rfl (by rw [Int.natCast_add]; rfl) Tryd.underlying39 size_byte (by omega)) ?_
  clear hw1
  generalize (if cap = 10 + m then (some ⟨b, off, none⟩ : Option Addr) else (some ⟨b, off, none⟩ : Option Addr).map (·.add (10 + m))) = A2 at *
  rw [show (bvs p).drop (10 + m) = bvs (p.drop (10 + m)) from by simp [bvs]] at HRD
  refine wpQuiet_step (fun K hK => ?_)
  go_simp
  apply Exists.intro
  refine ⟨fun x => ?_, hK _ ?_⟩
  · exact (trim_any A2 (512 - (10 + m)) (cap - (10 + m)) (p.drop (10 + m)) (F x) (by omega) (by omega) (HRD.out.fr0 (HF.out x))).mono fun e w' ⟨h1, k, h2⟩ => ⟨h1, HFI.out _ (h2 ▸ (HF.out x).drewN k)⟩
  clear hK K
  have hne0 : ¬ rn (p.drop (10 + m)) = 0 := fun h => HY.out.2.2 (rn_zero.1 h)
  have hpos := lz_lt_rn (l := p.drop (10 + m)) (by omega)
  obtain ⟨b2, off2, hA2, _⟩ := HRD.out.2 (by
    rcases Nat.eq_zero_or_pos (512 - (10 + m)) with h | h
    · exfalso
      apply hne0
      have : p.drop (10 + m) = [] := List.eq_nil_of_length_eq_zero (by rw [List.length_drop, HP.out]; exact h)
      rw [this]; rfl
    · exact h)
  have HTV := Lib.hid (show trimA A2 (cap - (10 + m)) (p.drop (10 + m)) = .slice (some ⟨b2, off2 + lz (p.drop (10 + m)), none⟩) (rn (p.drop (10 + m)) - lz (p.drop (10 + m))) (cap - (10 + m) - lz (p.drop (10 + m))) by
    unfold trimA; rw [if_neg hne0, hA2])
  obtain ⟨tn, htn⟩ : ∃ k, rn (p.drop (10 + m)) - lz (p.drop (10 + m)) = k + 1 := ⟨rn (p.drop (10 + m)) - lz (p.drop (10 + m)) - 1, by omega⟩
  rw [HTV.out, htn]
  generalize cap - (10 + m) - lz (p.drop (10 + m)) = tc at *
  generalize off2 + lz (p.drop (10 + m)) = to at *
  clear hne0 hpos hA2 HTV htn
  have hdt : decide ((0 : Int) < (tn : Int) + 1) = true := by simp
  iterate 3 (refine wpQuiet_step (fun K hK => ?_); go_simp; refine hK _ ?_; clear hK K)
  refine wpQuiet_nil ?_
  rintro _ ⟨x, rfl⟩
  go_wp2
  go_ret2
  exact ⟨rfl, HF.out x⟩

set_option maxRecDepth 100000 in
set_option maxHeartbeats 2000000 in
theorem decode_ok (n b off cap : Nat) (p : List UInt8) (w : World) (hn : n ≤ 16383) (hp : p.length = 512) (hcap : 512 ≤ cap) (hr : Rd w (some ⟨b, off, none⟩) 512 (bvs p)) (hyp : longOf p ≤ 502 ∧ be8 (pageSum n (p.drop 8)) ++ p.drop 8 = p ∧ ∀ c ∈ p.drop (10 + longOf p), c = 0) :
    Calls Tryd.prog 64 #[.int .i64 (n : Int), .slice (some ⟨b, off, none⟩) 512 cap] w fun e w' =>
      (∃ v, e = .returned (.tuple #[v, .int .i64 0]) ∧ w'.ownsRow w.heap.size 5 1 v (longOf p) (bvs ((p.drop 10).take (longOf p)))) ∧ Fr0 w w' := by
  have HR := Lib.hid hr
  have HP := Lib.hid hp
  clear hr hp
  obtain ⟨c8, h8⟩ : ∃ c, p[8]? = some c := ⟨_, List.getElem?_eq_getElem (by rw [HP.out]; omega)⟩
  obtain ⟨c9, h9⟩ : ∃ c, p[9]? = some c := ⟨_, List.getElem?_eq_getElem (by rw [HP.out]; omega)⟩
  have hcell8 := rd_byte HR.out h8
  have hcell9 := rd_byte HR.out h9
  have HLG := Lib.hid (show longOf p = c8.toNat * 256 + c9.toNat by simp [longOf, List.getD, h8, h9])
  have hb8 : c8.toNat < 256 := c8.toNat_lt
  have hb9 : c9.toNat < 256 := c9.toNat_lt
  have HY := Lib.hid hyp
  clear h8 h9 hyp
  go_enter Tryd.func64, Tryd.ntmps64
  go_wp2_with fail
  go_quiet (fail)
  go_wp2_with fail
  rw [or_eq c8.toNat c9.toNat hb8 hb9, ← HLG.out]
  clear hcell8 hcell9 hb8 hb9 HLG
  generalize hm : longOf p = m at *
  have HM := Lib.hid hm
  clear hm
  have hd : decide ((502 : Int) < (m : Int)) = false := by have := HY.out.1; simp; omega
  obtain ⟨X, F, hne, hF, hFi, x0, hx0⟩ := family0 w (w.drewN nq) (Fr.refl.drewN _)
  have HF := Lib.hid hF
  have HFI := Lib.hid hFi
  refine wp_region_fam F (by kernel_rfl) (by kernel_rfl) x0 hx0 ?_
  clear hF hFi hx0
  have harr := fun W : World => run_arrayAt (P := Tryd.prog) W 111 5 512 Tryd.underlying111 (some ⟨b, off, none⟩) 512 cap (Nat.le_refl _)
  iterate 6 (refine wpQuiet_step (fun K hK => ?_); go_simp; refine hK _ ?_; clear hK K)
  refine wpQuiet_val (v := .agg (bvs p).toArray) rfl (fun x => exec_loadRd 111 (.tmp 33) rfl b off 512 (bvs p) (.array 512 5) rfl (HR.out.fr0 (HF.out x)) Tryd.underlying111 rfl size_sheet) ?_
  refine wpQuiet_step (fun K hK => ?_)
  go_simp
  apply Exists.intro
  refine ⟨fun x => ?_, hK _ ?_⟩
  · exact (sealed_any n p (F x) hn HP.out).mono fun e w' ⟨h1, h2⟩ => ⟨h1, HFI.out _ ((HF.out x).then0 h2)⟩
  clear hK K
  iterate 2 (refine wpQuiet_step (fun K hK => ?_); go_simp; refine hK _ ?_; clear hK K)
  refine wpQuiet_val (v := .agg (bvs p).toArray) rfl (fun x => exec_loadRd 111 (.tmp 37) rfl b off 512 (bvs p) (.array 512 5) rfl (HR.out.fr0 (HF.out x)) Tryd.underlying111 rfl size_sheet) ?_
  clear harr
  have heq := fun W : World => run_equalIn_bytes (P := Tryd.prog) W 9998 111 5 512 Tryd.underlying111 Tryd.underlying5 size_byte (be8 (pageSum n (p.drop 8)) ++ p.drop 8) p (by rw [List.length_append, be8_length, List.length_drop, HP.out]) HP.out
  have heg : Tryd.prog.eqGuardType Tryd.prog.depth 111 = false := by kernel_rfl
  generalize hsl : be8 (pageSum n (p.drop 8)) ++ p.drop 8 = sl at *
  have HSL := Lib.hid hsl
  clear hsl
  have hs : (sl == p) = true := by simpa using HY.out.2.1
  rw [hs] at heq
  refine wpQuiet_step (fun K hK => ?_)
  go_simp
  refine hK _ ?_
  clear hK K heq heg hs
  have hm5 : m ≤ 502 := HY.out.1
  have hw1 : IntKind.i64.wrap (10 + (m : Int)) = 10 + (m : Int) := IntWalk.i64_in _ (by omega)
  iterate 5 (refine wpQuiet_step (fun K hK => ?_); go_simp; refine hK _ ?_; clear hK K)
  have HRD := Lib.hid (HR.out.cut (k := 10 + m) (cap := cap) (by omega) hcap)
  refine wpQuiet_val (v := .slice (if cap = 10 + m then (some ⟨b, off, none⟩ : Option Addr) else (some ⟨b, off, none⟩ : Option Addr).map (·.add (10 + m))) (512 - (10 + m)) (cap - (10 + m))) rfl (fun x => exec_sliceFrom 39 5 (.tmp 42) (.tmp 44) rfl (some ⟨b, off, none⟩) 512 cap (10 + m) (10 + (m : Int)) rfl rfl (by rw [Int.natCast_add]; rfl) Tryd.underlying39 size_byte (by omega)) ?_
  clear hw1
  generalize (if cap = 10 + m then (some ⟨b, off, none⟩ : Option Addr) else (some ⟨b, off, none⟩ : Option Addr).map (·.add (10 + m))) = A2 at *
  rw [show (bvs p).drop (10 + m) = bvs (p.drop (10 + m)) from by simp [bvs]] at HRD
  refine wpQuiet_step (fun K hK => ?_)
  go_simp
  apply Exists.intro
  refine ⟨fun x => ?_, hK _ ?_⟩
  · exact (trim_any A2 (512 - (10 + m)) (cap - (10 + m)) (p.drop (10 + m)) (F x) (by omega) (by omega) (HRD.out.fr0 (HF.out x))).mono fun e w' ⟨h1, k, h2⟩ => ⟨h1, HFI.out _ (h2 ▸ (HF.out x).drewN k)⟩
  clear hK K
  rw [show trimA A2 (cap - (10 + m)) (p.drop (10 + m)) = .slice none 0 0 from by unfold trimA; rw [if_pos (rn_zero.2 HY.out.2.2)]]
  iterate 3 (refine wpQuiet_step (fun K hK => ?_); go_simp; refine hK _ ?_; clear hK K)
  refine wpQuiet_nil ?_
  rintro _ ⟨x, rfl⟩
  go_wp2_with fail
  have HRX := Lib.hid ((HR.out.sub 10 m (by omega)).fr0 (HF.out x))
  rw [show ((bvs p).drop 10).take m = bvs ((p.drop 10).take m) from by simp [bvs]] at HRX
  refine (clone_any (some ⟨b, off + 10, none⟩) m (cap - 10) (bvs ((p.drop 10).take m)) (F x) (by omega) HRX.out (bvs_one _) (by simp)).mono ?_
  rintro e w7 ⟨v, rfl, ho, hf⟩
  have HO := Lib.hid (own_base ho (HF.out x).size)
  have HT := Lib.hid ((HF.out x).then0 hf)
  clear ho hf
  go_wp2
  go_ret2
  exact ⟨⟨v, rfl, by rw [HM.out]; exact HO.out⟩, HT.out⟩
end Go.Proofs.YthdlljlcffokbaaDoor
namespace Go.Proofs.YthdlljlcffokbaaDoor
open Go.RowKit

/-- The string of these bytes. -/
def str (l : List UInt8) : Value := .string ⟨l.toArray⟩
theorem str_of (s : ByteArray) : Value.string s = str s.data.toList := by
  cases s with | mk d => rfl
section
variable {P : Program} {e : Env} {w : World} {o : Oper}
theorem y_slen {t : Nat} {x : Operand} {l : List UInt8} (ho : o.op = .call { callee := .builtin .len, args := #[x], argTypes := #[t] }) (hx : ev e x = some (str l)) (ht : P.underlying t = some .string) : Y P e o w (.int .i64 (l.length : Int)) := fun ρ h => by
  have hs : (ByteArray.mk l.toArray).size = l.length := by show l.toArray.size = _; simp
  unfold execOp
  simp [ho, h _ _ hx, str, resolve, invoke, builtin, Builtin.len_, run_underlying ht, goInt, hs]
theorem y_seql {t t' : Nat} {a b : List UInt8} {x y : Operand} (ho : o.op = .binOp .eql t x y t') (hx : ev e x = some (str a)) (hy : ev e y = some (str b)) : Y P e o w (.bool (decide (a = b))) := fun ρ h => by
  have h1 : ρ x = .string ⟨a.toArray⟩ := h _ _ hx
  have h2 : ρ y = .string ⟨b.toArray⟩ := h _ _ hy
  unfold execOp
  simp [ho, h1, h2, eqGuard_at_string, binOp, Op.stringOp]
  by_cases hab : a = b
  · subst hab; simp
  · simp [hab]
end
end Go.Proofs.YthdlljlcffokbaaDoor
namespace Go.Proofs.YthdlljlcffokbaaDoor
open Go.RowKit

def val8 (l : List UInt8) : Nat := l.foldl (fun a c => a * 256 + c.toNat) 0
theorem val8_be8 (n : Nat) (h : n < M64) : val8 (be8 n) = n := by
  have h' : n < 18446744073709551616 := h
  have e : be8 n = [UInt8.ofNat (n >>> 56), UInt8.ofNat (n >>> 48), UInt8.ofNat (n >>> 40), UInt8.ofNat (n >>> 32), UInt8.ofNat (n >>> 24), UInt8.ofNat (n >>> 16), UInt8.ofNat (n >>> 8), UInt8.ofNat (n >>> 0)] := rfl
  rw [e]
  simp only [val8, List.foldl_cons, List.foldl_nil, UInt8.toNat_ofNat', Nat.shiftRight_eq_div_pow]
  omega
theorem val8_snoc (l : List UInt8) (k : Nat) (h : k < l.length) : val8 (l.take (k + 1)) = val8 (l.take k) * 256 + l[k].toNat := foldl_snoc _ 0 l k h
theorem val8_lt (l : List UInt8) : val8 l < 256 ^ l.length := by
  have key : ∀ (l : List UInt8) (a m : Nat), a < 256 ^ m → l.foldl (fun a c => a * 256 + c.toNat) a < 256 ^ (m + l.length) := by
    intro l
    induction l with
    | nil => intro a m h; exact h
    | cons c l ih =>
      intro a m h
      rw [List.foldl_cons, List.length_cons, show m + (l.length + 1) = (m + 1) + l.length by omega]
      refine ih _ _ ?_
      have hc := c.toNat_lt
      rw [Nat.pow_succ]
      omega
  have := key l 0 0 (by simp)
  simpa [val8] using this
section
variable {P : Program} {e : Env} {w : World} {o : Oper}
theorem y_shr {t t' : Nat} {k : IntKind} {a b : Int} {x y : Operand} (ho : o.op = .binOp .shr t x y t') (hx : ev e x = some (.int .i64 a)) (hy : ev e y = some (.int k b)) (h0 : 0 ≤ b) (h1 : b ≤ 64) : Y P e o w (.int .i64 (a / 2 ^ b.toNat)) := fun ρ h => by
  have h1' : b ≤ IntKind.i64.bits := h1
  unfold execOp; simp [ho, h _ _ hx, h _ _ hy, eqGuard_shr, binOp_shr]
theorem y_shl8 {t t' : Nat} {k : IntKind} {a : Nat} {x y : Operand} (ho : o.op = .binOp .shl t x y t') (hx : ev e x = some (.int .u64 (a : Int))) (hy : ev e y = some (.int k 8)) (ha : a < 72057594037927936) : Y P e o w (.int .u64 ((a * 256 : Nat) : Int)) := fun ρ h => by
  have := shift_shl .u64 k a 8 (by decide) (by decide)
  have hw : IntKind.u64.wrap ((a : Int) * 2 ^ (8 : Int).toNat) = ((a * 256 : Nat) : Int) := by
    rw [IntKind.wrap_u64, show (2 : Int) ^ (8 : Int).toNat = 256 from rfl]; omega
  rw [hw] at this
  unfold execOp; simp [ho, h _ _ hx, h _ _ hy, eqGuard_shl, binOp_shl, this]
theorem or_u64 (a b : Nat) (ha : a < 72057594037927936) (hb : b < 256) : bits BinOp.or IntKind.u64 ((a * 256 : Nat) : Int) (b : Int) = ((a * 256 + b : Nat) : Int) := by
  have h1 : (BitVec.ofInt 64 ((a * 256 : Nat) : Int)).toNat = a * 256 := by
    rw [BitVec.ofInt_natCast, BitVec.toNat_ofNat]; omega
  have h2 : (BitVec.ofInt 64 (b : Int)).toNat = b := by
    rw [BitVec.ofInt_natCast, BitVec.toNat_ofNat]; omega
  show IntKind.u64.wrap ((BitVec.ofInt 64 ((a * 256 : Nat) : Int) ||| BitVec.ofInt 64 (b : Int)).toNat : Int) = _
  rw [BitVec.toNat_or, h1, h2, show a * 256 = 2 ^ 8 * a from by omega, ← Nat.two_pow_add_eq_or_of_lt (by simpa using hb), IntKind.wrap_u64]
  omega
theorem y_or8 {t t' : Nat} {a b : Nat} {x y : Operand} (ho : o.op = .binOp .or t x y t') (hx : ev e x = some (.int .u64 ((a * 256 : Nat) : Int))) (hy : ev e y = some (.int .u64 (b : Int))) (ha : a < 72057594037927936) (hb : b < 256) : Y P e o w (.int .u64 ((a * 256 + b : Nat) : Int)) := fun ρ h => by
  have := or_u64 a b ha hb
  unfold execOp; simp [ho, h _ _ hx, h _ _ hy, eqGuard_or, binOp_or, intBits_or]
  simpa using this
/-- s[lo:hi]. -/
theorem y_sliceLH {t len cap sz el : Nat} {A : Option Addr} {m m' : Int} {k k' : IntKind} {x i j : Operand} (ho : o.op = .slice t x (some i) (some j) none) (hx : ev e x = some (.slice A len cap)) (hi : ev e i = some (.int k m)) (hj : ev e j = some (.int k' m')) (ht : sliceElem P t = some (el, sz)) (h0 : 0 ≤ m ∧ m ≤ m' ∧ m' ≤ cap) :
    Y P e o w (.slice (if cap = m.toNat then A else A.map (·.add (m.toNat * sz))) (m'.toNat - m.toNat) (cap - m.toNat)) := fun ρ h => by
  unfold sliceElem at ht
  split at ht
  · rename_i el' hu
    split at ht
    · rename_i i' hi'
      simp only [Option.some.injEq, Prod.mk.injEq] at ht
      obtain ⟨rfl, rfl⟩ := ht
      have h2 : 0 ≤ m' := by omega
      unfold execOp
      simp [ho, h _ _ hx, h _ _ hi, h _ _ hj, Instr.sliceAt, Instr.slice, run_underlying hu, Instr.sliceBounds, Instr.sliceBound, asIntOf, h0.1, h0.2.2, h2, sizeOf, typeInfo, hi']
      intro hh
      exfalso; omega
    · cases ht
  · cases ht
/-- append onto a full row, whatever its marks: a new row. -/
theorem does_append_full {ρ : Operand → Value} {s x : Operand} {t el : TypeId} (ho : o.op = .call { callee := .builtin .append, args := #[s, x], argTypes := #[t, t] }) (ht : P.underlying t = some (.slice el)) (hi : (P.info? el).map (fun i => (i.zero, i.size, i.bytes)) = some (some (.int .u8 0), 1, 1)) {base n m c g : Nat} {xs news : List Value} {A : Option Addr} (hs : ρ s = .slice (some ⟨g, 0, none⟩) n n) (hrd : Rd w (some ⟨g, 0, none⟩) n xs) (hx : ρ x = .slice A m c) (hr : Rd w A m news) (hm : 0 < m) (hb : base ≤ w.heap.size) (hsm : n + m ≤ 1000000) :
    Does P ρ o w fun v' w' => w'.ownsRow base el 1 v' (n + m) (xs ++ news) ∧ Fr (fun b => base ≤ b) w w' := by
  obtain ⟨b', off', e, hc⟩ := hr.2 hm
  subst e
  cases hq : P.info? el with
  | none => rw [hq] at hi; cases hi
  | some i =>
    rw [hq] at hi
    simp only [Option.map_some, Option.some.injEq, Prod.mk.injEq] at hi
    obtain ⟨hz, hsz, hby⟩ := hi
    have hxs := hrd.1
    have hmax : n + m ≤ maxLen := by unfold maxLen; omega
    have hlo : xs.length = n * 1 := by omega
    have hln : news.length = m * 1 := by have := hr.1; omega
    have c1 : ∀ j u, xs[j]? = some u → w.cell? (Addr.add ⟨g, 0, none⟩ j) = some u := fun j u hj => by
      have hn : 0 < n := by have := (List.getElem?_eq_some_iff.1 hj).1; omega
      obtain ⟨b1, o1, e1, hc1⟩ := hrd.2 hn
      injection e1 with e1; injection e1 with e1 e2 _; subst e1; subst e2
      rw [Addr.add_mid]; exact hc1 j u hj
    have c2 : ∀ j u, news[j]? = some u → w.cell? (Addr.add ⟨b', off', none⟩ j) = some u := fun j u hj => by rw [Addr.add_mid]; exact hc j u hj
    obtain ⟨v', w', hrun, r1, r2⟩ := run_append_arg_grows (P := P) w t o.type el i (.int .u8 0) 1 1 ht hq hz hsz hby rfl (Nat.lt_succ_self 0) ⟨g, 0, none⟩ n n xs hlo c1 ⟨b', off', none⟩ m c news hln c2 (by omega) hmax (by omega)
    refine ⟨v', w', .inl ?_, ?_, Fr.refl.grown r2 (fun k hk _ => by cases hk)⟩
    · unfold execOp
      simp only [ho, resolve, invoke, builtin, Sem.run_bind, Sem.run_pure, Result.andThen_ok, List.map_toArray, List.map_cons, List.map_nil, hs, hx, hrun]
    · refine ⟨r1.1, ?_⟩
      rcases r1.2 with h | ⟨g2, cap2, cur, e1, h2, h3⟩
      · exact .inl h
      · exact .inr ⟨g2, cap2, cur, e1, by omega, h3⟩
end
/-- A row of bytes that may be appended to: one's own, or a full one. -/
def Ap (w : World) (base : Nat) (v : Value) (n : Nat) (xs : List Value) : Prop := w.ownsRow base 5 1 v n xs ∨ ∃ g, v = .slice (some ⟨g, 0, none⟩) n n ∧ base ≤ g ∧ Rd w (some ⟨g, 0, none⟩) n xs
theorem info_u8 : (Tryd.prog.info? 5).map (fun i => (i.zero, i.size, i.bytes)) = some (some (.int .u8 0), 1, 1) := by kernel_rfl
section
variable {w : World} {o : Oper}
theorem does_apB {ρ : Operand → Value} {s x : Operand} (ho : o.op = .call { callee := .builtin .append, args := #[s, x], argTypes := #[39, 39] }) {base n m c : Nat} {v : Value} {xs news : List Value} {A : Option Addr} (hs : ρ s = v) (hv : Ap w base v n xs) (hx : ρ x = .slice A m c) (hr : Rd w A m news) (h1 : ∀ u ∈ news, u.oneCell' = true) (hm : 0 < m) (hb : base ≤ w.heap.size) (hsm : n + m ≤ 1000000) :
    Does Tryd.prog ρ o w fun v' w' => w'.ownsRow base 5 1 v' (n + m) (xs ++ news) ∧ Fr (fun b => base ≤ b) w w' := by
  rcases hv with hown | ⟨g, rfl, _, hrd⟩
  · refine (does_append s x 39 ho base 5 (.int .u8 0) 1 Tryd.underlying39 info_u8 rfl v n xs hs hown A m c news hx hr h1 (by unfold maxLen; omega) (by omega) hb).mono fun v' w' ⟨h2, h3, _⟩ => ⟨h2, Fr.refl.grown h3 (fun k hk _ => (hown.lt k hk).1)⟩
  · exact does_append_full ho Tryd.underlying39 info_u8 hs hrd hx hr hm hb hsm
end
end Go.Proofs.YthdlljlcffokbaaDoor
namespace Go.Proofs.YthdlljlcffokbaaDoor
open Go.RowKit

theorem be8_take (n : Nat) {j : Nat} (h : j < 8) : (be8 n).take (j + 1) = (be8 n).take j ++ [UInt8.ofNat (n >>> (56 - 8 * j))] := by
  rw [List.take_add_one, be8_at n j h]; rfl
theorem byte_shr (n : Nat) (j : Nat) (hj : j < 8) : IntKind.u8.wrap ((n : Int) / 2 ^ ((56 : Int) - 8 * (j : Int)).toNat) = (((UInt8.ofNat (n >>> (56 - 8 * j))).toNat : Nat) : Int) := by
  rw [toNat_ofNat8, Nat.shiftRight_eq_div_pow, show ((56 : Int) - 8 * (j : Int)).toNat = 56 - 8 * j by omega, IntKind.wrap_u8]
  simp
set_option maxHeartbeats 4000000 in
theorem eight_ok (v : Value) (k : Nat) (xs : List Value) (n base : Nat) (w : World) (hv : Ap w base v k xs) (hb : base ≤ w.heap.size) (hk : k ≤ 1000) :
    Calls Tryd.prog 57 #[v, .int .i64 (n : Int)] w fun e w' => ∃ v', e = .returned v' ∧ w'.ownsRow base 5 1 v' (k + 8) (xs ++ bvs (be8 n)) ∧ Fr (fun b => base ≤ b) w w' := by
  refine sx_enter (vs := [_, _]) Tryd.func57 rfl Tryd.ntmps57 rfl ?_
  refine sx_seq ?_
  refine sx_region ?_
  refine sxl_y (wn_none rfl) rfl rfl (yp rfl) ?_
  refine sxl_nil ?_
  refine qx_seq ?_
  refine sx_seq ?_
  refine sx_seq ?_
  refine sx_region ?_
  refine sxl_y (wn_none rfl) rfl rfl (yp rfl) ?_
  refine sxl_nil ?_
  refine qx_seq ?_
  refine sx_block ?_
  refine sx_loop (fun e wr m => ∃ (j : Nat) (u : Value), e = [(5, .int .i64 (56 - 8 * (j : Int))), (0, u), (1, .int .i64 (n : Int))] ∧ j ≤ 8 ∧ Ap wr base u (k + j) (xs ++ bvs ((be8 n).take j)) ∧ (0 < j → wr.ownsRow base 5 1 u (k + j) (xs ++ bvs ((be8 n).take j))) ∧ Fr (fun b => base ≤ b) w wr ∧ m = 8 - j)
    ⟨0, v, rfl, Nat.zero_le _, by simpa [bvs] using hv, fun h => absurd h (Nat.lt_irrefl _), Fr.refl, rfl⟩ ⟨rfl, rfl, rfl, trivial⟩ ?_
  rintro _ wr _ ⟨j, u, rfl, hj, hap, hown, hfr, rfl⟩
  by_cases hlt : j < 8
  · have hsz := hfr.size
    refine sx_seq ?_
    refine sx_seq ?_
    refine sx_region ?_
    refine sxl_y (wn_none rfl) rfl rfl (yp rfl) ?_
    refine sxl_y (wn_none rfl) rfl rfl (y_geq_t rfl rfl rfl (by omega)) ?_
    refine sxl_nil ?_
    refine qx_seq ?_
    refine sx_true rfl ?_
    refine sx_skip ?_
    refine qx_seq ?_
    refine sx_seq ?_
    refine sx_block ?_
    refine sx_region ?_
    iterate 3 refine sxl_y (wn_none rfl) rfl rfl (yp rfl) ?_
    refine sxl_y (wn_none rfl) rfl rfl (y_shr rfl rfl rfl (by omega) (by omega)) ?_
    refine sxl_y (wn_none rfl) rfl rfl (y_convInt rfl rfl Tryd.underlying3 Tryd.underlying5 (byte_shr n j hlt)) ?_
    refine sxl_does (some 15) (wn_none rfl) rfl rfl (fun ρ hρ => does_slice [bv (UInt8.ofNat (n >>> (56 - 8 * j)))] (.int .u8 0) hρ rfl rfl rfl rfl Tryd.underlying39 (size := 1) (by kernel_rfl) (by decide) (by decide) (by simp [bv, Value.cells])) ?_
    rintro _ w1 ⟨g, rfl, hg1, hg2, hb1, hf1⟩
    have hb1 : Blk w1 g 5 [bv (UInt8.ofNat (n >>> (56 - 8 * j)))] := hb1
    have hap1 : Ap w1 base u (k + j) (xs ++ bvs ((be8 n).take j)) := by
      rcases hap with h | ⟨g', e, h1, h2⟩
      · exact .inl (own_fr h hf1 (fun _ _ hh => hh))
      · exact .inr ⟨g', e, h1, h2.fr0 hf1⟩
    refine sxl_does (some 16) (wn_none rfl) rfl rfl (fun ρ hρ => does_apB rfl (hρ _ _ rfl) hap1 (hρ _ _ rfl) (Rd.ofBlk hb1 (n := 1) rfl) (by simp [bv, Value.oneCell']) (by decide) (by omega) (by omega)) ?_
    rintro u2 w2 ⟨ho2, hf2⟩
    refine sxl_y (wn_none rfl) rfl rfl (yp rfl) ?_
    refine sxl_nil ?_
    refine qx_block_normal ?_
    refine qx_seq ?_
    refine sx_region ?_
    refine sxl_y (wn_none rfl) rfl rfl (yp rfl) ?_
    refine sxl_y (wn_none rfl) rfl rfl (y_sub rfl rfl rfl (by omega)) ?_
    refine sxl_y (wn_none rfl) rfl rfl (yp rfl) ?_
    refine sxl_nil ?_
    have ho3 : w2.ownsRow base 5 1 u2 (k + (j + 1)) (xs ++ bvs ((be8 n).take (j + 1))) := by
      rw [be8_take n hlt, bvs_append, ← List.append_assoc]
      exact ho2
    exact qx_again [(5, .int .i64 (56 - 8 * ((j + 1 : Nat) : Int))), (0, u2), (1, .int .i64 (n : Int))] (8 - (j + 1)) ⟨j + 1, u2, rfl, hlt, .inl ho3, fun _ => ho3, hfr.trans ((Fr.of0 hf1).trans hf2), rfl⟩ (by omega) ⟨by
      show some (Value.int .i64 (56 - 8 * (j : Int) - 8)) = _
      congr 2; omega, rfl, rfl, trivial⟩
  · have hj8 : j = 8 := by omega
    refine sx_seq ?_
    refine sx_seq ?_
    refine sx_region ?_
    refine sxl_y (wn_none rfl) rfl rfl (yp rfl) ?_
    refine sxl_y (wn_none rfl) rfl rfl (y_geq_f rfl rfl rfl (by omega)) ?_
    refine sxl_nil ?_
    refine qx_seq ?_
    refine sx_false rfl ?_
    refine sx_exit ?_
    refine qx_then_exit ?_
    refine qx_then_exit ?_
    refine qx_block_hit ?_
    refine qx_seq ?_
    refine sx_seq ?_
    refine sx_region ?_
    iterate 2 refine sxl_y (wn_none rfl) rfl rfl (yp rfl) ?_
    refine sxl_nil ?_
    refine qx_seq ?_
    refine sx_ret ?_
    refine qx_ret1 rfl rfl ?_
    refine ⟨u, rfl, ?_, hfr⟩
    have := hown (by omega)
    rw [hj8] at this
    rwa [List.take_of_length_le (by rw [be8_length]; exact Nat.le_refl _)] at this
set_option maxHeartbeats 4000000 in
theorem number_ok (b off len cap : Nat) (l : List UInt8) (w : World) (hr : Rd w (some ⟨b, off, none⟩) 8 (bvs l)) (hlen : 8 ≤ len) (hcap : len ≤ cap) :
    Calls Tryd.prog 62 #[.slice (some ⟨b, off, none⟩) len cap] w fun e w' => e = .returned (.int .u64 (val8 l : Int)) ∧ w = w' := by
  have hll : l.length = 8 := by rw [← bvs_length, hr.1]
  refine sx_enter (vs := [_]) Tryd.func62 rfl Tryd.ntmps62 rfl ?_
  refine sx_seq ?_
  refine sx_region ?_
  refine sxl_y (wn_none rfl) rfl rfl (yp rfl) ?_
  refine sxl_nil ?_
  refine qx_seq ?_
  refine sx_seq ?_
  refine sx_region ?_
  refine sxl_y (wn_none rfl) rfl rfl (yp rfl) ?_
  refine sxl_nil ?_
  refine qx_seq ?_
  refine sx_seq ?_
  refine sx_seq ?_
  refine sx_region ?_
  refine sxl_y (wn_none rfl) rfl rfl (yp rfl) ?_
  refine sxl_y (wn_none rfl) rfl rfl (y_sliceTo rfl rfl rfl (sl rfl) (by omega)) ?_
  refine sxl_y (wn_none rfl) rfl rfl (y_len rfl rfl (sl rfl)) ?_
  refine sxl_y (wn_none rfl) rfl rfl (yp rfl) ?_
  refine sxl_nil ?_
  refine qx_seq ?_
  refine sx_block ?_
  refine sx_loop (fun e wr m => ∃ (i : Nat), e = [(9, .int .i64 (i : Int)), (8, .int .i64 8), (7, .slice (some ⟨b, off, none⟩) 8 cap), (3, .int .u64 (val8 (l.take i) : Int))] ∧ w = wr ∧ i ≤ 8 ∧ m = 8 - i) ⟨0, rfl, rfl, Nat.zero_le _, rfl⟩ ⟨rfl, rfl, rfl, rfl, trivial⟩ ?_
  rintro _ _ _ ⟨i, rfl, rfl, hi, rfl⟩
  by_cases hlt : i < 8
  · obtain ⟨c, hc⟩ : ∃ c, l[i]? = some c := ⟨_, List.getElem?_eq_getElem (by omega)⟩
    obtain ⟨b', off', e', hcell⟩ := hr.2 (by decide)
    injection e' with e'; injection e' with e1 e2 _; subst e1; subst e2
    have ce : Cell w.heap b (off + i * 1) (.int .u8 (c.toNat : Int)) := by
      rw [Nat.mul_one]; exact Cell.of (hcell i _ (by unfold bvs; rw [List.getElem?_map, hc]; rfl))
    have hlt8 : val8 (l.take i) < 72057594037927936 := by
      have h1 := val8_lt (l.take i)
      have h2 : (l.take i).length ≤ 7 := by rw [List.length_take]; omega
      have h3 : 256 ^ (l.take i).length ≤ 256 ^ 7 := Nat.pow_le_pow_right (by decide) h2
      have h4 : (256 : Nat) ^ 7 = 72057594037927936 := by decide
      omega
    have hcl := c.toNat_lt
    have hnext : val8 (l.take (i + 1)) = val8 (l.take i) * 256 + c.toNat := by
      rw [val8_snoc l i (by omega)]
      congr 2
      rw [List.getElem?_eq_getElem (by omega)] at hc
      exact Option.some.inj hc
    have hw8 : IntKind.u64.wrap (c.toNat : Int) = (c.toNat : Int) := by rw [IntKind.wrap_u64]; omega
    refine sx_seq ?_
    refine sx_region ?_
    refine sxl_y (wn_none rfl) rfl rfl (y_lss_t rfl rfl rfl (by omega)) ?_
    refine sxl_nil ?_
    refine qx_seq ?_
    refine sx_seq ?_
    refine sx_true rfl ?_
    refine sx_skip ?_
    refine qx_seq ?_
    refine sx_seq ?_
    refine sx_block ?_
    refine sx_seq ?_
    refine sx_region ?_
    refine sxl_y (wn_none rfl) rfl rfl (y_indexN rfl rfl rfl (sl rfl) (by omega)) ?_
    refine sxl_y (wn_none rfl) rfl rfl (y_load rfl rfl (sc rfl) (by assumption)) ?_
    refine sxl_y (wn_none rfl) rfl rfl (yp rfl) ?_
    refine sxl_nil ?_
    refine qx_seq ?_
    refine sx_region ?_
    refine sxl_y (wn_none rfl) rfl rfl (yp rfl) ?_
    refine sxl_y (wn_none rfl) rfl rfl (y_shl8 rfl rfl rfl hlt8) ?_
    refine sxl_y (wn_none rfl) rfl rfl (yp rfl) ?_
    refine sxl_y (wn_none rfl) rfl rfl (y_convInt rfl rfl Tryd.underlying5 Tryd.underlying108 hw8) ?_
    refine sxl_y (wn_none rfl) rfl rfl (y_or8 rfl rfl rfl hlt8 hcl) ?_
    refine sxl_y (wn_none rfl) rfl rfl (yp rfl) ?_
    refine sxl_nil ?_
    refine qx_block_normal ?_
    refine qx_seq ?_
    refine sx_region ?_
    refine sxl_y (wn_none rfl) rfl rfl (y_add rfl rfl rfl (by omega)) ?_
    refine sxl_y (wn_none rfl) rfl rfl (yp rfl) ?_
    refine sxl_nil ?_
    exact qx_again [(9, .int .i64 ((i + 1 : Nat) : Int)), (8, .int .i64 8), (7, .slice (some ⟨b, off, none⟩) 8 cap), (3, .int .u64 (val8 (l.take (i + 1)) : Int))] (8 - (i + 1)) ⟨i + 1, rfl, rfl, hlt, rfl⟩ (by omega) ⟨rfl, rfl, rfl, by rw [hnext]; rfl, trivial⟩
  · obtain rfl : i = 8 := by omega
    refine sx_seq ?_
    refine sx_region ?_
    refine sxl_y (wn_none rfl) rfl rfl (y_lss_f rfl rfl rfl (by omega)) ?_
    refine sxl_nil ?_
    refine qx_seq ?_
    refine sx_seq ?_
    refine sx_false rfl ?_
    refine sx_exit ?_
    refine qx_then_exit ?_
    refine qx_then_exit ?_
    refine qx_block_hit ?_
    refine qx_seq ?_
    refine sx_seq ?_
    refine sx_region ?_
    iterate 2 refine sxl_y (wn_none rfl) rfl rfl (yp rfl) ?_
    refine sxl_nil ?_
    refine qx_seq ?_
    refine sx_ret ?_
    refine qx_ret1 rfl rfl ?_
    exact ⟨by rw [List.take_of_length_le (by omega)], rfl⟩
end Go.Proofs.YthdlljlcffokbaaDoor
namespace Go.Proofs.YthdlljlcffokbaaDoor
open Go.RowKit

section
variable {P : Program} {e : Env} {w : World} {o : Oper}
/-- s[lo:lo+n], its row known. -/
theorem y_sliceN {t len cap sz el g off : Nat} (lo n : Nat) {m m' : Int} {k k' : IntKind} {x i j : Operand} (ho : o.op = .slice t x (some i) (some j) none) (hx : ev e x = some (.slice (some ⟨g, off, none⟩) len cap)) (hi : ev e i = some (.int k m)) (hj : ev e j = some (.int k' m')) (ht : sliceElem P t = some (el, sz)) (h0 : m = lo) (h1 : m' = ((lo + n : Nat) : Int)) (h2 : lo + n ≤ cap) (h3 : lo < cap) :
    Y P e o w (.slice (some ⟨g, off + lo * sz, none⟩) n (cap - lo)) := by
  subst h0; subst h1
  have := y_sliceLH (P := P) (w := w) ho hx hi hj ht (by omega)
  rw [if_neg (by rw [Int.toNat_natCast]; omega)] at this
  rw [Int.toNat_natCast, Int.toNat_natCast, show lo + n - lo = n by omega, Option.map_some, Addr.add_mid] at this
  exact this
end
def sec (b : List UInt8) (j : Nat) : List UInt8 := (b.drop (j * 128)).take 128
/-- The first k sectors of page n are written. -/
def DS.wrUpto (s : DS) (n : Nat) (b : List UInt8) : Nat → DS × Bool
  | 0 => (s, true)
  | k + 1 => if (s.wrUpto n b k).2 then (((s.wrUpto n b k).1.writes (n * 4 + k) (sec b k)).1, decide (((s.wrUpto n b k).1.writes (n * 4 + k) (sec b k)).2 = 0)) else s.wrUpto n b k
def DS.wrPage (s : DS) (n : Nat) (b : List UInt8) : DS × Bool := s.wrUpto n b 4
theorem DS.wrUpto_stuck (s : DS) (n : Nat) (b : List UInt8) {k : Nat} (h : (s.wrUpto n b k).2 = false) : ∀ j, s.wrUpto n b (k + j) = s.wrUpto n b k
  | 0 => rfl
  | j + 1 => by
    have ih := DS.wrUpto_stuck s n b h j
    show s.wrUpto n b ((k + j) + 1) = _
    rw [DS.wrUpto, ih, h]
    rfl
theorem DS.writes_res (s : DS) (i : Nat) (b : List UInt8) : ((s.writes i b).2 = 0 ∧ s.due = false ∧ (s.writes i b).1 = (s.burnt.put i b).more) ∨ ((s.writes i b).2 = 20 ∧ s.due = true ∧ (s.writes i b).1 = (s.burnt.put i b).crash s.keep s.torn s.cut) := by
  unfold DS.writes
  cases h : s.due
  · exact .inl ⟨rfl, rfl, rfl⟩
  · exact .inr ⟨rfl, rfl, rfl⟩
theorem DS.burnt_eq (s : DS) : s.burnt.lasts = s.lasts ∧ s.burnt.shows = s.shows ∧ s.burnt.waits = s.waits ∧ s.burnt.done = s.done ∧ s.burnt.dead = s.dead ∧ s.burnt.keep = s.keep ∧ s.burnt.torn = s.torn ∧ s.burnt.cut = s.cut := by
  unfold DS.burnt; split <;> exact ⟨rfl, rfl, rfl, rfl, rfl, rfl, rfl, rfl⟩
theorem DS.writes_keep (s : DS) (i : Nat) (b : List UInt8) : (s.writes i b).1.keep = s.keep := by
  rcases s.writes_res i b with ⟨_, _, h⟩ | ⟨_, _, h⟩ <;> rw [h] <;> exact s.burnt_eq.2.2.2.2.2.1
theorem DS.writes_len (s : DS) (i : Nat) (b : List UInt8) : (s.writes i b).1.lasts.length = s.lasts.length := by
  rcases s.writes_res i b with ⟨_, _, h⟩ | ⟨_, _, h⟩ <;> rw [h]
  · exact congrArg List.length s.burnt_eq.1
  · exact (crashFrom_length ..).trans (congrArg List.length s.burnt_eq.1)
theorem DS.flushes_keep (s : DS) : s.flushes.1.keep = s.keep := by
  unfold DS.flushes
  split
  · rfl
  · exact s.burnt_eq.2.2.2.2.2.1
/-- While all goes well. -/
theorem DS.wrUpto_ok (s : DS) (n : Nat) (b : List UInt8) (hd : s.dead = false) : ∀ k, (s.wrUpto n b k).2 = true → (s.wrUpto n b k).1.dead = false ∧ (s.wrUpto n b k).1.waits.length = s.waits.length + k ∧ (s.wrUpto n b k).1.done = s.done + k
  | 0, _ => ⟨hd, rfl, rfl⟩
  | k + 1, h => by
    rw [DS.wrUpto] at h ⊢
    cases hk : (s.wrUpto n b k).2 with
    | false => rw [hk] at h; simp [hk] at h
    | true =>
      obtain ⟨h1, h2, h3⟩ := DS.wrUpto_ok s n b hd k hk
      rw [hk] at h
      simp only [if_true, decide_eq_true_eq] at h ⊢
      obtain ⟨e1, _, e3, e4, e5, _⟩ := (s.wrUpto n b k).1.burnt_eq
      rcases (s.wrUpto n b k).1.writes_res (n * 4 + k) (sec b k) with ⟨_, _, h'⟩ | ⟨h', _, _⟩
      · rw [h']
        refine ⟨by show (s.wrUpto n b k).1.burnt.dead = false; rw [e5]; exact h1, ?_, ?_⟩
        · show ((s.wrUpto n b k).1.burnt.waits ++ [_]).length = _
          rw [List.length_append, e3, h2]; rfl
        · show (s.wrUpto n b k).1.burnt.done + 1 = _
          rw [e4, h3]; rfl
      · rw [h'] at h; cases h
theorem DS.wrUpto_len (s : DS) (n : Nat) (b : List UInt8) : ∀ k, (s.wrUpto n b k).1.lasts.length = s.lasts.length
  | 0 => rfl
  | k + 1 => by
    rw [DS.wrUpto]
    split
    · exact (DS.writes_len _ _ _).trans (DS.wrUpto_len s n b k)
    · exact DS.wrUpto_len s n b k
section
variable {w : World} {Q : PL} {p : PS} {s : DS}
theorem PgAt.store5 {w1 : World} (h : PgAt w Q p s) (hf : Fr (fun b => b = Q.gp) w w1) (hb : Blk w1 Q.gp 82 ((p.cells Q.L.gd Q.gm).set 5 (.bool true))) : PgTo w w1 Q Q { p with dead := true } s := .own h hf hb rfl
set_option maxHeartbeats 8000000 in
theorem pwrite_ok (h : PgAt w Q p s) (hd : s.dead = false) (n : Nat) (A : Option Addr) (len cap : Nat) (l : List UInt8) (hn : n * 4 + 4 ≤ s.lasts.length) (hlen : len ≤ 502) (hr : Rd w A len (bvs l)) (hw : s.waits.length ≤ 1000000) (hdn : s.done ≤ 1000000) :
    Calls Tryd.prog 39 #[.pointer (some ⟨Q.gp, 0, none⟩), .int .i64 (n : Int), .slice A len cap] w fun e w' => ∃ Q', e = .returned (.int .i64 (if (s.wrPage n (pageOf n l)).2 then 0 else 20)) ∧ PgTo w w' Q Q' { p with dead := p.dead || !(s.wrPage n (pageOf n l)).2 } (s.wrPage n (pageOf n l)).1 := by
  have hle := h.dk.wf.le
  have hll : l.length = len := by rw [← bvs_length, hr.1]
  have hpl := pageOf_length n l (by omega)
  refine sx_enter (vs := [_, _, _]) Tryd.func39 rfl Tryd.ntmps39 rfl ?_
  refine sx_seq ?_
  refine sx_region ?_
  refine sxl_y (wn_none rfl) rfl rfl (yp rfl) ?_
  refine sxl_nil ?_
  refine qx_seq ?_
  refine sx_seq ?_
  refine sx_region ?_
  iterate 2 refine sxl_y (wn_none rfl) rfl rfl (yp rfl) ?_
  refine sxl_call (some 14) (by first | exact wn_none rfl | exact wn_on rfl rfl rfl) rfl rfl (yc_call rfl rfl Tryd.call59) (encode_ok n A len cap l w (by omega) hlen hr) ?_
  rintro _ w1 ⟨vp, rfl, hop, hf1⟩
  refine ⟨_, rfl, ?_⟩
  obtain ⟨g, cp, rest, rfl, hg, hcp, hbp, hbl⟩ := own_blk hop (by decide)
  have hcm : cp ≤ maxLen := by
    rcases hop.2 with ⟨e, _⟩ | ⟨g', cap', cur, e, _, _, _, hm, _⟩
    · cases e
    · injection e with _ _ e; subst e; exact hm
  unfold maxLen at hcm
  have h1 := h.fr0 hf1
  have hgl := hbp.lt
  iterate 5 refine sxl_y (wn_none rfl) rfl rfl (yp rfl) ?_
  refine sxl_nil ?_
  refine qx_seq ?_
  refine sx_seq ?_
  refine sx_seq ?_
  refine sx_region ?_
  refine sxl_y (wn_none rfl) rfl rfl (yp rfl) ?_
  refine sxl_y (wn_none rfl) rfl rfl (y_neq_f rfl rfl rfl (by omega)) ?_
  refine sxl_nil ?_
  refine qx_seq ?_
  refine sx_false rfl ?_
  refine sx_skip ?_
  refine qx_seq ?_
  refine sx_seq ?_
  refine sx_seq ?_
  refine sx_region ?_
  refine sxl_y (wn_none rfl) rfl rfl (yp rfl) ?_
  refine sxl_nil ?_
  refine qx_seq ?_
  refine sx_block ?_
  refine sx_loop (fun e wr m => ∃ (k : Nat) (Qk : PL), e = [(20, .int .i64 (k : Int)), (7, .slice (some ⟨g, 0, none⟩) 512 cp), (0, .pointer (some ⟨Q.gp, 0, none⟩)), (1, .int .i64 (n : Int))] ∧ k ≤ 4 ∧ (s.wrUpto n (pageOf n l) k).2 = true ∧ PgTo w1 wr Q Qk p (s.wrUpto n (pageOf n l) k).1 ∧ m = 4 - k)
    ⟨0, Q, rfl, Nat.zero_le _, rfl, .refl h1 Fr.refl, rfl⟩ ⟨rfl, rfl, rfl, rfl, trivial⟩ ?_
  rintro _ wr _ ⟨k, Qk, rfl, hk, hok, hto, rfl⟩
  obtain ⟨hd', hw', hdn'⟩ := s.wrUpto_ok n (pageOf n l) hd k hok
  have hln' := s.wrUpto_len n (pageOf n l) k
  have hgq : ¬ Q.blocks g := fun hb => by have := h.lt hb; omega
  have hgk : ¬ Qk.L.blocks g := fun hb => by
    rcases hto.bl g (.inr (.inr hb)) with hb | hb
    · exact hgq hb
    · omega
  have hbr : Blk wr g 5 (bvs (pageOf n l) ++ rest) := hbp.fr hto.fr hgq
  have c0 : Cell wr.heap Q.gp 0 (.pointer (some ⟨Qk.L.gd, 0, none⟩)) := by rw [← hto.gp]; exact hto.pg.c0
  by_cases hlt : k < 4
  · have hsec : Rd wr (some ⟨g, 0 + (k * 128) * 1, none⟩) 128 (bvs (sec (pageOf n l) k)) := by
      have := Rd.of_blk hbr (k * 128) (n := 128) (by rw [hbl]; omega)
      rw [List.drop_append_of_le_length (by rw [bvs_length, hpl]; omega), List.take_append_of_le_length (by rw [List.length_drop, bvs_length, hpl]; omega)] at this
      rw [Nat.zero_add, Nat.mul_one]
      have e : bvs (sec (pageOf n l) k) = ((bvs (pageOf n l)).drop (k * 128)).take 128 := by unfold sec bvs; rw [List.map_take, List.map_drop]
      rw [e]
      exact this
    have hsl : (sec (pageOf n l) k).length = 128 := by unfold sec; rw [List.length_take, List.length_drop, hpl]; omega
    have hstep : s.wrUpto n (pageOf n l) (k + 1) = (((s.wrUpto n (pageOf n l) k).1.writes (n * 4 + k) (sec (pageOf n l) k)).1, decide (((s.wrUpto n (pageOf n l) k).1.writes (n * 4 + k) (sec (pageOf n l) k)).2 = 0)) := by rw [DS.wrUpto, if_pos hok]
    have hkeep := (s.wrUpto n (pageOf n l) k).1.writes_keep (n * 4 + k) (sec (pageOf n l) k)
    refine sx_seq ?_
    refine sx_region ?_
    refine sxl_y (wn_none rfl) rfl rfl (y_lss_t rfl rfl rfl (by omega)) ?_
    refine sxl_nil ?_
    refine qx_seq ?_
    refine sx_seq ?_
    refine sx_true rfl ?_
    refine sx_skip ?_
    refine qx_seq ?_
    refine sx_seq ?_
    refine sx_block ?_
    refine sx_seq ?_
    refine sx_region ?_
    iterate 2 refine sxl_y (wn_none rfl) rfl rfl (yp rfl) ?_
    refine sxl_nil ?_
    refine qx_seq ?_
    refine sx_seq ?_
    refine sx_tail 15 hmix (by kernel_rfl) ?_
    iterate 3 refine sxs_y (wn_none rfl) rfl rfl (yp rfl) ?_
    refine sxs_y (wn_none rfl) rfl rfl (y_load rfl rfl (sc rfl) (by assumption)) ?_
    refine sxs_y (wn_none rfl) rfl rfl (yp rfl) ?_
    refine sxs_y (wn_none rfl) rfl rfl (y_mul rfl rfl rfl (by omega)) ?_
    refine sxs_y (wn_none rfl) rfl rfl (yp rfl) ?_
    refine sxs_y (wn_none rfl) rfl rfl (y_add rfl rfl rfl (by omega)) ?_
    iterate 2 refine sxs_y (wn_none rfl) rfl rfl (yp rfl) ?_
    refine sxs_y (wn_none rfl) rfl rfl (y_mul rfl rfl rfl (by omega)) ?_
    refine sxs_y (wn_none rfl) rfl rfl (yp rfl) ?_
    refine sxs_y (wn_none rfl) rfl rfl (y_add rfl rfl rfl (by omega)) ?_
    refine sxs_y (wn_none rfl) rfl rfl (y_mul rfl rfl rfl (by omega)) ?_
    refine sxs_y (wn_none rfl) rfl rfl (y_sliceN (k * 128) 128 rfl rfl rfl rfl (sl rfl) (by omega) (by omega) (by omega) (by omega)) ?_
    refine sxs_tail ?_
    refine sxl_call (some 38) (wn_none rfl) rfl rfl (yc_call rfl rfl Tryd.call60) (write_ok (n * 4 + k) (sec (pageOf n l) k) (some ⟨g, 0 + (k * 128) * 1, none⟩) _ _ Qk.L _ (hto.pg.fr0 Fr.refl.drew).dk hd' (by omega) hsl (hsec.fr0 Fr.refl.drew) (fun g' off e => by injection e with e; injection e with e _ _; subst e; exact hgk) (by omega) (by omega)) ?_
    rintro _ w2 ⟨L', rfl, hto2⟩
    refine ⟨_, rfl, ?_⟩
    have hp2 := PgTo.disk (hto.pg.fr0 (Fr.refl.drew : Fr0 wr wr.drew)) hto2 hkeep
    have hp2' := (hto.then0 (Fr.refl.drew : Fr0 wr wr.drew)).trans hp2
    rcases (s.wrUpto n (pageOf n l) k).1.writes_res (n * 4 + k) (sec (pageOf n l) k) with ⟨e0, _, _⟩ | ⟨e0, _, _⟩
    · rw [e0] at hstep
      rw [e0]
      refine sxl_y (wn_none rfl) rfl rfl (yp rfl) ?_
      refine sxl_nil ?_
      refine qx_seq ?_
      refine sx_seq ?_
      refine sx_region ?_
      refine sxl_y (wn_none rfl) rfl rfl (yp rfl) ?_
      refine sxl_y (wn_none rfl) rfl rfl (y_neq_f rfl rfl rfl (by omega)) ?_
      refine sxl_nil ?_
      refine qx_seq ?_
      refine sx_false rfl ?_
      refine sx_skip ?_
      refine qx_block_normal ?_
      refine qx_seq ?_
      refine sx_region ?_
      refine sxl_y (wn_none rfl) rfl rfl (y_add rfl rfl rfl (by omega)) ?_
      refine sxl_y (wn_none rfl) rfl rfl (yp rfl) ?_
      refine sxl_nil ?_
      exact qx_again [(20, .int .i64 ((k + 1 : Nat) : Int)), (7, .slice (some ⟨g, 0, none⟩) 512 cp), (0, .pointer (some ⟨Q.gp, 0, none⟩)), (1, .int .i64 (n : Int))] (4 - (k + 1)) ⟨k + 1, _, rfl, hlt, by rw [hstep]; rfl, by rw [hstep]; exact hp2', rfl⟩ (by omega) ⟨rfl, rfl, rfl, rfl, trivial⟩
    · rw [e0] at hstep
      rw [e0]
      have hfin : s.wrPage n (pageOf n l) = s.wrUpto n (pageOf n l) (k + 1) := by
        have := s.wrUpto_stuck n (pageOf n l) (k := k + 1) (by rw [hstep]; rfl) (4 - (k + 1))
        rw [show k + 1 + (4 - (k + 1)) = 4 by omega] at this
        exact this
      have hgp : Qk.gp = Q.gp := hto.gp
      refine sxl_y (wn_none rfl) rfl rfl (yp rfl) ?_
      refine sxl_nil ?_
      refine qx_seq ?_
      refine sx_seq ?_
      refine sx_region ?_
      refine sxl_y (wn_none rfl) rfl rfl (yp rfl) ?_
      refine sxl_y (wn_none rfl) rfl rfl (y_neq_t rfl rfl rfl (by omega)) ?_
      refine sxl_nil ?_
      refine qx_seq ?_
      refine sx_true rfl ?_
      refine sx_seq ?_
      refine sx_region ?_
      iterate 3 refine sxl_y (wn_none rfl) rfl rfl (yp rfl) ?_
      refine sxl_does none (wn_none rfl) rfl rfl (fun ρ hρ => does_store1 4 (.tmp 43) _ rfl Q.gp 5 82 _ (.bool true) (hρ _ _ rfl) (hρ _ _ rfl) rfl (by rw [← hgp]; exact hp2'.pg.hd) (by kernel_rfl) (by simp [PS.cells]) rfl) ?_
      rintro _ w3 ⟨rfl, hb3, hf3⟩
      refine sxl_nil ?_
      refine qx_seq ?_
      refine sx_seq ?_
      refine sx_region ?_
      refine sxl_y (wn_none rfl) rfl rfl (yp rfl) ?_
      refine sxl_nil ?_
      refine qx_seq ?_
      refine sx_ret ?_
      refine qx_block_ret ?_
      refine qx_then_ret ?_
      refine qx_then_ret ?_
      refine qx_block_ret ?_
      refine qx_then_ret ?_
      refine qx_ret1 rfl rfl ?_
      refine ⟨{ Qk with L := L' }, by rw [hfin, hstep]; rfl, ?_⟩
      rw [hfin, hstep]
      have hend := (PgTo.refl h hf1).trans (hp2'.trans (hp2'.pg.store5 (by show Fr (fun b => b = Qk.gp) _ _; rw [hgp]; exact hf3) (by show Blk _ Qk.gp _ _; rw [hgp]; exact hb3)))
      have ep : ({ p with dead := p.dead || !decide ((20 : Int) = 0) } : PS) = { p with dead := true } := by
        cases p.dead <;> rfl
      rw [ep]
      exact hend
  · have hk4 : k = 4 := by omega
    subst hk4
    have hfin : (s.wrPage n (pageOf n l)).2 = true := hok
    refine sx_seq ?_
    refine sx_region ?_
    refine sxl_y (wn_none rfl) rfl rfl (y_lss_f rfl rfl rfl (by omega)) ?_
    refine sxl_nil ?_
    refine qx_seq ?_
    refine sx_seq ?_
    refine sx_false rfl ?_
    refine sx_exit ?_
    refine qx_then_exit ?_
    refine qx_then_exit ?_
    refine qx_block_hit ?_
    refine qx_seq ?_
    refine sx_seq ?_
    refine sx_region ?_
    refine sxl_y (wn_none rfl) rfl rfl (yp rfl) ?_
    refine sxl_nil ?_
    refine qx_seq ?_
    refine sx_ret ?_
    refine qx_ret1 rfl rfl ?_
    refine ⟨Qk, by rw [hfin]; rfl, ?_⟩
    have ep : ({ p with dead := p.dead || !(s.wrPage n (pageOf n l)).2 } : PS) = p := by rw [hfin]; cases p with | mk a b c d e => cases e <;> rfl
    rw [ep]
    exact (PgTo.refl h hf1).trans hto
set_option maxHeartbeats 4000000 in
theorem pflush_ok (h : PgAt w Q p s) (hd : s.dead = false) (hdn : s.done ≤ 1000000) :
    Calls Tryd.prog 33 #[.pointer (some ⟨Q.gp, 0, none⟩)] w fun e w' => ∃ Q', e = .returned (.int .i64 s.flushes.2) ∧ PgTo w w' Q Q' { p with dead := p.dead || decide (s.flushes.2 ≠ 0) } s.flushes.1 := by
  have c0 := h.c0
  refine sx_enter (vs := [_]) Tryd.func33 rfl Tryd.ntmps33 rfl ?_
  refine sx_seq ?_
  refine sx_region ?_
  refine sxl_y (wn_none rfl) rfl rfl (yp rfl) ?_
  refine sxl_nil ?_
  refine qx_seq ?_
  refine sx_seq ?_
  refine sx_seq ?_
  refine sx_region ?_
  iterate 3 refine sxl_y (wn_none rfl) rfl rfl (yp rfl) ?_
  refine sxl_y (wn_none rfl) rfl rfl (y_load rfl rfl (sc rfl) (by assumption)) ?_
  refine sxl_call (some 8) (by first | exact wn_none rfl | exact wn_on rfl rfl rfl) rfl rfl (yc_call rfl rfl Tryd.call58) (flush_ok w Q.L s h.dk hd (by omega)) ?_
  rintro _ w1 ⟨L', rfl, hto⟩
  refine ⟨_, rfl, ?_⟩
  have hp := PgTo.disk h hto s.flushes_keep
  cases hdue : s.due with
  | true =>
    have e0 : s.flushes.2 = 20 := by unfold DS.flushes; rw [if_pos hdue]
    rw [e0]
    refine sxl_y (wn_none rfl) rfl rfl (yp rfl) ?_
    refine sxl_nil ?_
    refine qx_seq ?_
    refine sx_seq ?_
    refine sx_region ?_
    refine sxl_y (wn_none rfl) rfl rfl (yp rfl) ?_
    refine sxl_y (wn_none rfl) rfl rfl (y_neq_t rfl rfl rfl (by omega)) ?_
    refine sxl_nil ?_
    refine qx_seq ?_
    refine sx_true rfl ?_
    refine sx_seq ?_
    refine sx_region ?_
    iterate 3 refine sxl_y (wn_none rfl) rfl rfl (yp rfl) ?_
    refine sxl_does none (wn_none rfl) rfl rfl (fun ρ hρ => does_store1 4 (.tmp 13) _ rfl Q.gp 5 82 _ (.bool true) (hρ _ _ rfl) (hρ _ _ rfl) rfl hp.pg.hd (by kernel_rfl) (by simp [PS.cells]) rfl) ?_
    rintro _ w3 ⟨rfl, hb3, hf3⟩
    refine sxl_nil ?_
    refine qx_seq ?_
    refine sx_seq ?_
    refine sx_region ?_
    refine sxl_y (wn_none rfl) rfl rfl (yp rfl) ?_
    refine sxl_nil ?_
    refine qx_seq ?_
    refine sx_ret ?_
    refine qx_then_ret ?_
    refine qx_ret1 rfl rfl ?_
    refine ⟨{ Q with L := L' }, rfl, ?_⟩
    have ep : ({ p with dead := p.dead || decide ((20 : Int) ≠ 0) } : PS) = { p with dead := true } := by cases p.dead <;> rfl
    rw [ep]
    exact hp.trans (hp.pg.store5 hf3 hb3)
  | false =>
    have e0 : s.flushes.2 = 0 := by unfold DS.flushes; rw [if_neg (by rw [hdue]; decide)]
    rw [e0]
    refine sxl_y (wn_none rfl) rfl rfl (yp rfl) ?_
    refine sxl_nil ?_
    refine qx_seq ?_
    refine sx_seq ?_
    refine sx_region ?_
    refine sxl_y (wn_none rfl) rfl rfl (yp rfl) ?_
    refine sxl_y (wn_none rfl) rfl rfl (y_neq_f rfl rfl rfl (by omega)) ?_
    refine sxl_nil ?_
    refine qx_seq ?_
    refine sx_false rfl ?_
    refine sx_skip ?_
    refine qx_seq ?_
    refine sx_seq ?_
    refine sx_region ?_
    refine sxl_y (wn_none rfl) rfl rfl (yp rfl) ?_
    refine sxl_nil ?_
    refine qx_seq ?_
    refine sx_ret ?_
    refine qx_ret1 rfl rfl ?_
    refine ⟨{ Q with L := L' }, rfl, ?_⟩
    have ep : ({ p with dead := p.dead || decide ((0 : Int) ≠ 0) } : PS) = p := by cases p with | mk a b c d e => cases e <;> rfl
    rw [ep]
    exact hp
end
end Go.Proofs.YthdlljlcffokbaaDoor
namespace Go.Proofs.YthdlljlcffokbaaDoor
open Go.RowKit

section
variable {P : Program} {w : World} {o : Oper}
/-- []byte of a constant: the row is marked behind its end. -/
theorem does_frz {ρ : Operand → Value} {x : Operand} {t el ty : TypeId} {g n c : Nat} {cs : List Value} (ho : o.op = .convert t t x) (ht : P.underlying t = some (.slice el)) (he : P.underlying el = some (.int .u8)) (hx : ρ x = .slice (some ⟨g, 0, none⟩) n c) (hb : Blk w g ty cs) :
    Does P ρ o w fun v w' => v = .slice (some ⟨g, 0, none⟩) n c ∧ Fr (fun b => b = g) w w' ∧ w'.heap[g]? = some (.cells cs.toArray ty (cs.length, cs.length + 1)) := by
  have hlt := hb.lt
  have hsh : w.shape? g = some (ty, cs.length) := by unfold World.shape?; unfold Blk at hb; rw [hb]; simp
  refine ⟨.slice (some ⟨g, 0, none⟩) n c, w.freeze ⟨g, cs.length, none⟩ 1, .inl ?_, rfl, ?_, ?_⟩
  · unfold execOp
    simp [ho, hx, convert, run_underlying ht, run_underlying he, markStringish, hsh]
  · unfold World.freeze
    rw [if_neg (by decide)]
    exact ⟨rfl, rfl, rfl, by simp, fun r _ hn => by simp [Array.getElem?_modify, Ne.symm hn]⟩
  · unfold World.freeze
    rw [if_neg (by decide)]
    unfold Blk at hb
    simp [Array.getElem?_modify, hb]
end
theorem rd_frz {w : World} {g : Nat} {ty : TypeId} {cs : List Value} {fr : Nat × Nat} (h : w.heap[g]? = some (.cells cs.toArray ty fr)) {n : Nat} (hn : cs.length = n) : Rd w (some ⟨g, 0, none⟩) n cs :=
  ⟨hn, fun _ => ⟨g, 0, rfl, fun j u hu => by simp [World.cell?, h, hu]⟩⟩
def magicB : List UInt8 := [116, 111, 108, 108, 103, 97, 116, 101]
def metaB (seq root : Nat) : List UInt8 := magicB ++ be8 seq ++ be8 root ++ be8 seq
theorem metaB_len (seq root : Nat) : (metaB seq root).length = 32 := by simp [metaB, magicB, be8_length]
section
variable {w : World} {Q : PL} {p : PS} {s : DS}
theorem pagesOf_ok (L : DL) (h : DkAt w L s) (hd : s.dead = false) (hn : 12 ≤ s.lasts.length) : Calls Tryd.prog 31 #[.pointer (some ⟨L.gd, 0, none⟩)] w fun e w' => e = .returned (.tuple #[.int .i64 ((s.lasts.length / 4 : Nat) : Int), .int .i64 0]) ∧ w = w' := by
  have hdead := dead_any w L.gd s.dead h.c4
  rw [hd] at hdead
  have hle := h.wf.le
  obtain ⟨A, c, evl, _, _, _⟩ := ownN_form h.hl
  have hlen := len_any w L.gd A s.lasts.length c (by rw [h.c0, evl])
  refine sx_enter (vs := [_]) Tryd.func31 rfl Tryd.ntmps31 rfl ?_
  refine sx_seq ?_
  refine sx_region ?_
  iterate 2 refine sxl_y (wn_none rfl) rfl rfl (yp rfl) ?_
  refine sxl_nil ?_
  refine qx_seq ?_
  refine sx_seq ?_
  refine sx_block ?_
  refine sx_seq ?_
  refine sx_region ?_
  refine sxl_y (wn_none rfl) rfl rfl (yp rfl) ?_
  refine sxl_y (wn_none rfl) rfl rfl (y_eqlNil rfl rfl rfl (pt rfl)) ?_
  refine sxl_y (wn_none rfl) rfl rfl (yp rfl) ?_
  refine sxl_nil ?_
  refine qx_seq ?_
  refine sx_false rfl ?_
  refine sx_seq ?_
  refine sx_region ?_
  refine sxl_y (wn_none rfl) rfl rfl (yp rfl) ?_
  refine sxl_pure (wn_none rfl) rfl rfl (yc_call rfl rfl Tryd.call10) (hdead) ?_
  refine sxl_y (wn_none rfl) rfl rfl (yp rfl) ?_
  refine sxl_nil ?_
  refine qx_seq ?_
  refine sx_false rfl ?_
  refine sx_skip ?_
  refine qx_block_normal ?_
  refine qx_seq ?_
  refine sx_seq ?_
  refine sx_region ?_
  refine sxl_y (wn_none rfl) rfl rfl (yp rfl) ?_
  refine sxl_pure (wn_none rfl) rfl rfl (yc_call rfl rfl Tryd.call56) (hlen) ?_
  refine sxl_y (wn_none rfl) rfl rfl (y_quo rfl rfl rfl (by omega) (by omega)) ?_
  refine sxl_y (wn_none rfl) rfl rfl (yp rfl) ?_
  refine sxl_nil ?_
  refine qx_seq ?_
  refine sx_seq ?_
  refine sx_seq ?_
  refine sx_region ?_
  refine sxl_y (wn_none rfl) rfl rfl (yp rfl) ?_
  refine sxl_y (wn_none rfl) rfl rfl (y_leq_f rfl rfl rfl (by omega)) ?_
  refine sxl_nil ?_
  refine qx_seq ?_
  refine sx_false rfl ?_
  refine sx_skip ?_
  refine qx_seq ?_
  refine sx_seq ?_
  refine sx_region ?_
  iterate 3 refine sxl_y (wn_none rfl) rfl rfl (yp rfl) ?_
  refine sxl_nil ?_
  refine qx_seq ?_
  refine sx_ret ?_
  refine qx_ret2 rfl rfl rfl ?_
  exact ⟨rfl, rfl⟩
theorem pagesOf_small (L : DL) (h : DkAt w L s) (hd : s.dead = false) (hn : s.lasts.length < 12) : Calls Tryd.prog 31 #[.pointer (some ⟨L.gd, 0, none⟩)] w fun e w' => e = .returned (.tuple #[.int .i64 0, .int .i64 1]) ∧ w = w' := by
  have hdead := dead_any w L.gd s.dead h.c4
  rw [hd] at hdead
  have hle := h.wf.le
  obtain ⟨A, c, evl, _, _, _⟩ := ownN_form h.hl
  have hlen := len_any w L.gd A s.lasts.length c (by rw [h.c0, evl])
  refine sx_enter (vs := [_]) Tryd.func31 rfl Tryd.ntmps31 rfl ?_
  refine sx_seq ?_
  refine sx_region ?_
  iterate 2 refine sxl_y (wn_none rfl) rfl rfl (yp rfl) ?_
  refine sxl_nil ?_
  refine qx_seq ?_
  refine sx_seq ?_
  refine sx_block ?_
  refine sx_seq ?_
  refine sx_region ?_
  refine sxl_y (wn_none rfl) rfl rfl (yp rfl) ?_
  refine sxl_y (wn_none rfl) rfl rfl (y_eqlNil rfl rfl rfl (pt rfl)) ?_
  refine sxl_y (wn_none rfl) rfl rfl (yp rfl) ?_
  refine sxl_nil ?_
  refine qx_seq ?_
  refine sx_false rfl ?_
  refine sx_seq ?_
  refine sx_region ?_
  refine sxl_y (wn_none rfl) rfl rfl (yp rfl) ?_
  refine sxl_pure (wn_none rfl) rfl rfl (yc_call rfl rfl Tryd.call10) (hdead) ?_
  refine sxl_y (wn_none rfl) rfl rfl (yp rfl) ?_
  refine sxl_nil ?_
  refine qx_seq ?_
  refine sx_false rfl ?_
  refine sx_skip ?_
  refine qx_block_normal ?_
  refine qx_seq ?_
  refine sx_seq ?_
  refine sx_region ?_
  refine sxl_y (wn_none rfl) rfl rfl (yp rfl) ?_
  refine sxl_pure (wn_none rfl) rfl rfl (yc_call rfl rfl Tryd.call56) (hlen) ?_
  refine sxl_y (wn_none rfl) rfl rfl (y_quo rfl rfl rfl (by omega) (by omega)) ?_
  refine sxl_y (wn_none rfl) rfl rfl (yp rfl) ?_
  refine sxl_nil ?_
  refine qx_seq ?_
  refine sx_seq ?_
  refine sx_seq ?_
  refine sx_region ?_
  refine sxl_y (wn_none rfl) rfl rfl (yp rfl) ?_
  refine sxl_y (wn_none rfl) rfl rfl (y_leq_t rfl rfl rfl (by omega)) ?_
  refine sxl_nil ?_
  refine qx_seq ?_
  refine sx_true rfl ?_
  refine sx_seq ?_
  refine sx_region ?_
  iterate 2 refine sxl_y (wn_none rfl) rfl rfl (yp rfl) ?_
  refine sxl_nil ?_
  refine qx_seq ?_
  refine sx_ret ?_
  refine qx_then_ret ?_
  refine qx_ret2 rfl rfl rfl ?_
  exact ⟨rfl, rfl⟩
set_option maxHeartbeats 4000000 in
theorem put_ok (h : PgAt w Q p s) (hd : s.dead = false) (n seq root : Nat) (hn : n * 4 + 4 ≤ s.lasts.length) (hw : s.waits.length ≤ 1000000) (hdn : s.done ≤ 1000000) :
    Calls Tryd.prog 32 #[.pointer (some ⟨Q.gp, 0, none⟩), .int .i64 (n : Int), .int .i64 (seq : Int), .int .i64 (root : Int)] w fun e w' => ∃ Q', e = .returned (.int .i64 (if (s.wrPage n (pageOf n (metaB seq root))).2 then 0 else 20)) ∧ PgTo w w' Q Q' { p with dead := p.dead || !(s.wrPage n (pageOf n (metaB seq root))).2 } (s.wrPage n (pageOf n (metaB seq root))).1 := by
  refine sx_enter (vs := [_, _, _, _]) Tryd.func32 rfl Tryd.ntmps32 rfl ?_
  refine sx_seq ?_
  refine sx_region ?_
  refine sxl_y (wn_none rfl) rfl rfl (yp rfl) ?_
  refine sxl_nil ?_
  refine qx_seq ?_
  refine sx_seq ?_
  refine sx_region ?_
  refine sxl_does (some 10) (wn_none rfl) rfl rfl (fun ρ hρ => does_slice (bvs magicB) (.int .u8 0) hρ rfl rfl rfl rfl Tryd.underlying39 (size := 1) (by kernel_rfl) (by decide) (by decide) (by decide)) ?_
  rintro _ w1 ⟨g, rfl, hg1, hg2, hb1, hf1⟩
  have hb1 : Blk w1 g 5 (bvs magicB) := hb1
  refine sxl_does (some 11) (wn_none rfl) rfl rfl (fun ρ hρ => does_frz rfl Tryd.underlying39 Tryd.underlying5 (hρ _ _ rfl) hb1) ?_
  rintro _ w2 ⟨rfl, hf2, hb2⟩
  have hf02 : Fr (fun b => w.heap.size ≤ b) w w2 := (Fr.of0 hf1).step hf2 (fun b hb e => by omega)
  have hz2 := hf02.size
  have hap : Ap w2 w.heap.size (.slice (some ⟨g, 0, none⟩) 8 8) 8 (bvs magicB) := .inr ⟨g, rfl, hg1, rd_frz hb2 rfl⟩
  refine sxl_y (wn_none rfl) rfl rfl (yp rfl) ?_
  refine sxl_nil ?_
  refine qx_seq ?_
  refine sx_seq ?_
  refine sx_region ?_
  iterate 2 refine sxl_y (wn_none rfl) rfl rfl (yp rfl) ?_
  refine sxl_call (some 14) (by first | exact wn_none rfl | exact wn_on rfl rfl rfl) rfl rfl (yc_call rfl rfl Tryd.call57) (eight_ok _ 8 (bvs magicB) seq w.heap.size w2 hap hz2 (by decide)) ?_
  rintro _ w3 ⟨v3, rfl, ho3, hf3⟩
  refine ⟨_, rfl, ?_⟩
  have hz3 := hf3.size
  refine sxl_y (wn_none rfl) rfl rfl (yp rfl) ?_
  refine sxl_nil ?_
  refine qx_seq ?_
  refine sx_seq ?_
  refine sx_region ?_
  iterate 2 refine sxl_y (wn_none rfl) rfl rfl (yp rfl) ?_
  refine sxl_call (some 17) (by first | exact wn_none rfl | exact wn_on rfl rfl rfl) rfl rfl (yc_call rfl rfl Tryd.call57) (eight_ok v3 16 _ root w.heap.size w3 (.inl ho3) (by omega) (by decide)) ?_
  rintro _ w4 ⟨v4, rfl, ho4, hf4⟩
  refine ⟨_, rfl, ?_⟩
  have hz4 := hf4.size
  refine sxl_y (wn_none rfl) rfl rfl (yp rfl) ?_
  refine sxl_nil ?_
  refine qx_seq ?_
  refine sx_seq ?_
  refine sx_region ?_
  iterate 2 refine sxl_y (wn_none rfl) rfl rfl (yp rfl) ?_
  refine sxl_call (some 20) (by first | exact wn_none rfl | exact wn_on rfl rfl rfl) rfl rfl (yc_call rfl rfl Tryd.call57) (eight_ok v4 24 _ seq w.heap.size w4 (.inl ho4) (by omega) (by decide)) ?_
  rintro _ w5 ⟨v5, rfl, ho5, hf5⟩
  refine ⟨_, rfl, ?_⟩
  have hf05 : Fr0 w w5 := (Fr.refl : Fr0 w w).step (((hf02.trans hf3).trans hf4).trans hf5) (fun b hb e => by omega)
  have ho5 : w5.ownsRow w.heap.size 5 1 v5 32 (bvs (metaB seq root)) := by
    unfold metaB
    rw [bvs_append, bvs_append, bvs_append]
    exact ho5
  obtain ⟨A, cp, rfl, _, _, hrd, _⟩ := own_form ho5
  refine sxl_y (wn_none rfl) rfl rfl (yp rfl) ?_
  refine sxl_nil ?_
  refine qx_seq ?_
  refine sx_seq ?_
  refine sx_region ?_
  iterate 3 refine sxl_y (wn_none rfl) rfl rfl (yp rfl) ?_
  refine sxl_call (some 24) (by first | exact wn_none rfl | exact wn_on rfl rfl rfl) rfl rfl (yc_call rfl rfl Tryd.call39) (pwrite_ok (h.fr0 hf05) hd n A 32 cp (metaB seq root) hn (by decide) hrd hw hdn) ?_
  rintro _ w6 ⟨Q', rfl, hto⟩
  refine ⟨_, rfl, ?_⟩
  refine sxl_y (wn_none rfl) rfl rfl (yp rfl) ?_
  refine sxl_nil ?_
  refine qx_seq ?_
  refine sx_ret ?_
  refine qx_ret1 rfl rfl ?_
  exact ⟨Q', rfl, (PgTo.refl h hf05).trans hto⟩
end
end Go.Proofs.YthdlljlcffokbaaDoor
