/- The machine that runs closed code in the kernel: what it does. Over any program. No condition. -/
import Derived.Test.YthdlljlcffokbaaDoorZb4
import Derived.Test.YthdlljlcffokbaaDoorZb1
namespace Go.Proofs.YthdlljlcffokbaaDoor
open Go.RowKit

def usedOf (l : List Int) : Int → Int := fun k => if k ∈ l then 1 else 0
/-- What Use answers, and what stands behind it. -/
def UseAns (p : PS) (s : DS) (l : List Int) (a : Int) (p' : PS) : Prop :=
  (p.gone s = true ∧ a = 20 ∧ p' = p) ∨ p.gone s = false ∧ (((∃ k, 1 < p.st k) ∧ a = 250 ∧ p' = p) ∨ (∀ k, p.st k ≤ 1) ∧ (((∃ n ∈ l, n < 2 ∨ (p.pages : Int) ≤ n) ∧ a = 1 ∧ p' = p) ∨
    (∀ n ∈ l, 2 ≤ n ∧ n < (p.pages : Int)) ∧ ((¬ l.Nodup ∧ a = 6 ∧ p' = p) ∨ (l.Nodup ∧ a = 0 ∧ p' = { p with st := usedOf l }))))
theorem take_snoc {l : List Int} {i : Nat} {n : Int} (h : l[i]? = some n) : l.take (i + 1) = l.take i ++ [n] := by
  rw [List.take_add_one, h]; rfl
theorem nodup_snoc (a : List Int) (n : Int) : (a ++ [n]).Nodup ↔ a.Nodup ∧ n ∉ a := by
  rw [List.nodup_append]
  constructor
  · rintro ⟨h1, _, h3⟩
    exact ⟨h1, fun h => h3 n h n (by simp) rfl⟩
  · rintro ⟨h1, h2⟩
    exact ⟨h1, by simp, fun x hx y hy e => by
      obtain rfl : y = n := by simpa using hy
      subst e; exact h2 hx⟩
section
variable {w : World} {Q : PL} {p : PS} {s : DS}
set_option maxHeartbeats 16000000 in
theorem use_any (h : PgAt w Q p s) (A : Option Addr) (l : List Int) (c : Nat) (hr : Rd w A l.length (iv l)) (hl : l.length ≤ 1000000) (hA : ∀ b off, A = some ⟨b, off, none⟩ → b ≠ Q.gp) :
    Calls Tryd.prog 21 #[.pointer (some ⟨Q.gp, 0, none⟩), .slice A l.length c] w fun e w' => ∃ a Q' p', e = .returned (.int .i64 a) ∧ UseAns p s l a p' ∧ PgTo w w' Q Q' p' s := by
  have c4 := h.c4
  refine sx_enter (vs := [_, _]) Tryd.func21 rfl Tryd.ntmps21 rfl ?_
  cases hg : p.gone s with
  | true =>
    refine sx_seq ?_
    refine sx_region ?_
    refine sxl_y (wn_none rfl) rfl rfl (yp rfl) ?_
    refine sxl_nil ?_
    refine qx_seq ?_
    refine sx_seq ?_
    refine sx_seq ?_
    refine sx_region ?_
    refine sxl_y (wn_none rfl) rfl rfl (yp rfl) ?_
    refine sxl_pure (wn_none rfl) rfl rfl (yc_call rfl rfl Tryd.call38) (palive_t h hg) ?_
    refine sxl_y (wn_none rfl) rfl rfl (yp rfl) ?_
    refine sxl_nil ?_
    refine qx_seq ?_
    refine sx_seq ?_
    refine sx_region ?_
    refine sxl_y (wn_none rfl) rfl rfl (yp rfl) ?_
    refine sxl_y (wn_none rfl) rfl rfl (y_neq_t rfl rfl rfl (by omega)) ?_
    refine sxl_nil ?_
    refine qx_seq ?_
    refine sx_true rfl ?_
    refine sx_seq ?_
    refine sx_region ?_
    iterate 2 refine sxl_y (wn_none rfl) rfl rfl (yp rfl) ?_
    refine sxl_nil ?_
    refine qx_seq ?_
    refine sx_ret ?_
    refine qx_then_ret ?_
    refine qx_ret1 rfl rfl ?_
    exact ⟨20, Q, p, rfl, .inl ⟨hg, rfl, rfl⟩, .refl h Fr.refl⟩
  | false =>
    refine sx_seq ?_
    refine sx_region ?_
    refine sxl_y (wn_none rfl) rfl rfl (yp rfl) ?_
    refine sxl_nil ?_
    refine qx_seq ?_
    refine sx_seq ?_
    refine sx_seq ?_
    refine sx_region ?_
    refine sxl_y (wn_none rfl) rfl rfl (yp rfl) ?_
    refine sxl_pure (wn_none rfl) rfl rfl (yc_call rfl rfl Tryd.call38) (palive_f h hg) ?_
    refine sxl_y (wn_none rfl) rfl rfl (yp rfl) ?_
    refine sxl_nil ?_
    refine qx_seq ?_
    refine sx_seq ?_
    refine sx_region ?_
    refine sxl_y (wn_none rfl) rfl rfl (yp rfl) ?_
    refine sxl_y (wn_none rfl) rfl rfl (y_neq_f rfl rfl rfl (by omega)) ?_
    refine sxl_nil ?_
    refine qx_seq ?_
    refine sx_false rfl ?_
    refine sx_skip ?_
    refine qx_seq ?_
    refine sx_seq ?_
    refine sx_seq ?_
    refine sx_region ?_
    iterate 3 refine sxl_y (wn_none rfl) rfl rfl (yp rfl) ?_
    refine sxl_y (wn_none rfl) rfl rfl (y_load rfl rfl (sc rfl) (by assumption)) ?_
    obtain ⟨f, hM, hs⟩ := h.hm
    refine sxl_does (some 25) (wn_none rfl) rfl rfl (fun ρ hρ => does_rangeI rfl (hρ _ _ rfl) Tryd.underlying80 hM) ?_
    rintro _ w1 ⟨r, n, rfl, hr1, hr2, hR, hf1⟩
    refine sxl_nil ?_
    refine qx_seq ?_
    refine sx_block ?_
    refine sx_loop (fun e wr m => ∃ (todo : Int → Bool) (n' : Nat), e = [(25, .pointer (some ⟨r, 0, none⟩)), (0, .pointer (some ⟨Q.gp, 0, none⟩)), (1, .slice A l.length c)] ∧ MiR wr Q.gm r (fun k => (f k).map ik) todo n' ∧ (∀ k, todo k = false → p.st k ≤ 1) ∧ Fr (fun b => b = r) w1 wr ∧ m = n')
      ⟨_, n, rfl, hR, (fun k hk => by
        cases hfk : f k with
        | none => rw [hs k, hfk]; decide
        | some v => rw [hfk] at hk; cases hk), Fr.refl, rfl⟩ ⟨rfl, rfl, rfl, trivial⟩ ?_
    rintro _ wr _ ⟨todo, n', rfl, hR, htodo, hfr, rfl⟩
    refine sx_seq ?_
    refine sx_region ?_
    refine sxl_does (some 26) (wn_none rfl) rfl rfl (fun ρ hρ => does_nextI rfl (hρ _ _ rfl) hR) ?_
    rintro _ w2 (⟨rfl, rfl, h0, hall⟩ | ⟨k, u, n2, rfl, hk, htk, hn2, hR2, hC, hf2, hsz⟩)
    case inr =>
      obtain ⟨x, hx, rfl⟩ : ∃ x, f k = some x ∧ ik x = u := by
        cases hgk' : f k with
        | none => rw [hgk'] at hk; cases hk
        | some x => rw [hgk'] at hk; injection hk with hk; exact ⟨x, rfl, hk⟩
      have hC' : MiC w2 r k (.int .i64 x) := hC
      have hst : p.st k = x := by rw [hs k, hx]; rfl
      by_cases hx1 : 1 < x
      · refine sxl_y (wn_none rfl) rfl rfl (yp rfl) ?_
        refine sxl_nil ?_
        refine qx_seq ?_
        refine sx_seq ?_
        refine sx_true rfl ?_
        refine sx_skip ?_
        refine qx_seq ?_
        refine sx_block ?_
        refine sx_seq ?_
        refine sx_region ?_
        refine sxl_y (wn_none rfl) rfl rfl (y_entryI rfl rfl hC') ?_
        iterate 2 refine sxl_y (wn_none rfl) rfl rfl (yp rfl) ?_
        refine sxl_nil ?_
        refine qx_seq ?_
        refine sx_seq ?_
        refine sx_region ?_
        refine sxl_y (wn_none rfl) rfl rfl (yp rfl) ?_
        refine sxl_y (wn_none rfl) rfl rfl (y_gtr_t rfl rfl rfl (by omega)) ?_
        refine sxl_nil ?_
        refine qx_seq ?_
        refine sx_true rfl ?_
        refine sx_seq ?_
        refine sx_region ?_
        refine sxl_y (wn_none rfl) rfl rfl (yp rfl) ?_
        refine sxl_nil ?_
        refine qx_seq ?_
        refine sx_ret ?_
        refine qx_block_ret ?_
        refine qx_then_ret ?_
        refine qx_block_ret ?_
        refine qx_then_ret ?_
        refine qx_ret1 rfl rfl ?_
        have hf0 : Fr0 w w2 := (hf1.step hfr (fun b hb e => by omega)).step hf2 (fun b hb e => by omega)
        exact ⟨250, Q, p, rfl, .inr ⟨hg, .inl ⟨⟨k, by omega⟩, rfl, rfl⟩⟩, .refl h hf0⟩
      · refine sxl_y (wn_none rfl) rfl rfl (yp rfl) ?_
        refine sxl_nil ?_
        refine qx_seq ?_
        refine sx_seq ?_
        refine sx_true rfl ?_
        refine sx_skip ?_
        refine qx_seq ?_
        refine sx_block ?_
        refine sx_seq ?_
        refine sx_region ?_
        refine sxl_y (wn_none rfl) rfl rfl (y_entryI rfl rfl hC') ?_
        iterate 2 refine sxl_y (wn_none rfl) rfl rfl (yp rfl) ?_
        refine sxl_nil ?_
        refine qx_seq ?_
        refine sx_seq ?_
        refine sx_region ?_
        refine sxl_y (wn_none rfl) rfl rfl (yp rfl) ?_
        refine sxl_y (wn_none rfl) rfl rfl (y_gtr_f rfl rfl rfl (by omega)) ?_
        refine sxl_nil ?_
        refine qx_seq ?_
        refine sx_false rfl ?_
        refine sx_skip ?_
        refine qx_block_normal ?_
        exact qx_again [(25, .pointer (some ⟨r, 0, none⟩)), (0, .pointer (some ⟨Q.gp, 0, none⟩)), (1, .slice A l.length c)] n2 ⟨_, n2, rfl, hR2, fun y hy => by
          by_cases hyk : y = k
          · subst hyk; omega
          · exact htodo y (by simpa [hyk] using hy), hfr.trans hf2, rfl⟩ hn2 ⟨rfl, rfl, rfl, trivial⟩
    have hst : ∀ k, p.st k ≤ 1 := fun k => htodo k (hall k)
    have hf2 : Fr0 w w2 := hf1.step hfr (fun b hb e => by omega)
    have h2 := h.fr0 hf2
    refine sxl_y (wn_none rfl) rfl rfl (yp rfl) ?_
    refine sxl_nil ?_
    refine qx_seq ?_
    refine sx_seq ?_
    refine sx_false rfl ?_
    refine sx_exit ?_
    refine qx_then_exit ?_
    refine qx_then_exit ?_
    refine qx_block_hit ?_
    refine qx_seq ?_
    refine sx_seq ?_
    refine sx_region ?_
    refine sxl_does (some 32) (wn_none rfl) rfl rfl (fun ρ hρ => does_mapS rfl) ?_
    rintro _ w3 ⟨gc, rfl, hc1, hc2, hMc, hf3⟩
    have hf03 := hf2.trans hf3
    refine sxl_y (wn_none rfl) rfl rfl (yp rfl) ?_
    refine sxl_nil ?_
    refine qx_seq ?_
    refine sx_seq ?_
    refine sx_region ?_
    refine sxl_y (wn_none rfl) rfl rfl (yp rfl) ?_
    refine sxl_nil ?_
    refine qx_seq ?_
    refine sx_seq ?_
    refine sx_seq ?_
    refine sx_region ?_
    refine sxl_y (wn_none rfl) rfl rfl (yp rfl) ?_
    refine sxl_y (wn_none rfl) rfl rfl (y_len rfl rfl (sl rfl)) ?_
    refine sxl_y (wn_none rfl) rfl rfl (yp rfl) ?_
    refine sxl_nil ?_
    refine qx_seq ?_
    refine sx_block ?_
    refine sx_loop (fun e wr m => ∃ (i : Nat) (cnt : Int → Int) (tw : Bool), e = [(35, .int .i64 (i : Int)), (34, .int .i64 (l.length : Int)), (33, .slice A l.length c), (9, .bool tw), (8, .map (some gc)), (0, .pointer (some ⟨Q.gp, 0, none⟩)), (1, .slice A l.length c)] ∧ i ≤ l.length ∧ Stt wr gc cnt ∧ (∀ k, cnt k = ((l.take i).count k : Int)) ∧ (tw = false ↔ (l.take i).Nodup) ∧ (∀ n ∈ l.take i, 2 ≤ n ∧ n < (p.pages : Int)) ∧ Fr (fun b => b = gc) w3 wr ∧ m = l.length - i)
      ⟨0, _, false, rfl, Nat.zero_le _, hMc, (fun k => by simp), by simp, by simp, Fr.refl, rfl⟩ ⟨rfl, rfl, rfl, rfl, rfl, rfl, rfl, trivial⟩ ?_
    rintro _ wr _ ⟨i, cnt, tw, rfl, hi, hMc, hcnt, htw, hin, hfr3, rfl⟩
    have hf0r : Fr0 w wr := hf03.step hfr3 (fun b hb e => by have := hf2.size; omega)
    have hwr := h.fr0 hf0r
    by_cases hlt : i < l.length
    · obtain ⟨n, hx⟩ : ∃ n, l[i]? = some n := ⟨_, List.getElem?_eq_getElem hlt⟩
      obtain ⟨b, off, rfl, ce⟩ := rd_int (hr.fr0 hf0r) hx
      have hts := take_snoc hx
      have hmem : n ∈ l := List.mem_of_getElem? hx
      by_cases hrange : n < 2 ∨ (p.pages : Int) ≤ n
      · have hat := at_any hwr n
        rw [show p.at_ s n = (0, 1) from by unfold PS.at_; rw [hg, if_neg (by decide), if_pos hrange]] at hat
        refine sx_seq ?_
        refine sx_region ?_
        refine sxl_y (wn_none rfl) rfl rfl (y_lss_t rfl rfl rfl (by omega)) ?_
        refine sxl_nil ?_
        refine qx_seq ?_
        refine sx_seq ?_
        refine sx_true rfl ?_
        refine sx_skip ?_
        refine qx_seq ?_
        refine sx_seq ?_
        refine sx_block ?_
        refine sx_seq ?_
        refine sx_region ?_
        refine sxl_y (wn_none rfl) rfl rfl (y_indexN rfl rfl rfl (sl rfl) (by omega)) ?_
        refine sxl_y (wn_none rfl) rfl rfl (y_load rfl rfl (sc rfl) (by assumption)) ?_
        refine sxl_y (wn_none rfl) rfl rfl (yp rfl) ?_
        refine sxl_nil ?_
        refine qx_seq ?_
        refine sx_seq ?_
        refine sx_seq ?_
        refine sx_region ?_
        iterate 2 refine sxl_y (wn_none rfl) rfl rfl (yp rfl) ?_
        refine sxl_pure (wn_none rfl) rfl rfl (yc_call rfl rfl Tryd.call37) (hat) ?_
        iterate 5 refine sxl_y (wn_none rfl) rfl rfl (yp rfl) ?_
        refine sxl_nil ?_
        refine qx_seq ?_
        refine sx_seq ?_
        refine sx_region ?_
        refine sxl_y (wn_none rfl) rfl rfl (yp rfl) ?_
        refine sxl_y (wn_none rfl) rfl rfl (y_neq_t rfl rfl rfl (by omega)) ?_
        refine sxl_nil ?_
        refine qx_seq ?_
        refine sx_true rfl ?_
        refine sx_seq ?_
        refine sx_region ?_
        iterate 2 refine sxl_y (wn_none rfl) rfl rfl (yp rfl) ?_
        refine sxl_nil ?_
        refine qx_seq ?_
        refine sx_ret ?_
        refine qx_then_ret ?_
        refine qx_block_ret ?_
        refine qx_then_ret ?_
        refine qx_then_ret ?_
        refine qx_block_ret ?_
        refine qx_then_ret ?_
        refine qx_ret1 rfl rfl ?_
        exact ⟨1, Q, p, rfl, .inr ⟨hg, .inr ⟨hst, .inl ⟨⟨n, hmem, hrange⟩, rfl, rfl⟩⟩⟩, .refl h hf0r⟩
      have hat := at_any hwr n
      rw [show p.at_ s n = (p.st n, 0) from by unfold PS.at_; rw [hg, if_neg (by decide), if_neg hrange]] at hat
      have hcn := hcnt n
      have hcl : (l.take i).count n ≤ i := Nat.le_trans (List.count_le_length) (by rw [List.length_take]; omega)
      refine sx_seq ?_
      refine sx_region ?_
      refine sxl_y (wn_none rfl) rfl rfl (y_lss_t rfl rfl rfl (by omega)) ?_
      refine sxl_nil ?_
      refine qx_seq ?_
      refine sx_seq ?_
      refine sx_true rfl ?_
      refine sx_skip ?_
      refine qx_seq ?_
      refine sx_seq ?_
      refine sx_block ?_
      refine sx_seq ?_
      refine sx_region ?_
      refine sxl_y (wn_none rfl) rfl rfl (y_indexN rfl rfl rfl (sl rfl) (by omega)) ?_
      refine sxl_y (wn_none rfl) rfl rfl (y_load rfl rfl (sc rfl) (by assumption)) ?_
      refine sxl_y (wn_none rfl) rfl rfl (yp rfl) ?_
      refine sxl_nil ?_
      refine qx_seq ?_
      refine sx_seq ?_
      refine sx_seq ?_
      refine sx_region ?_
      iterate 2 refine sxl_y (wn_none rfl) rfl rfl (yp rfl) ?_
      refine sxl_pure (wn_none rfl) rfl rfl (yc_call rfl rfl Tryd.call37) (hat) ?_
      iterate 5 refine sxl_y (wn_none rfl) rfl rfl (yp rfl) ?_
      refine sxl_nil ?_
      refine qx_seq ?_
      refine sx_seq ?_
      refine sx_region ?_
      refine sxl_y (wn_none rfl) rfl rfl (yp rfl) ?_
      refine sxl_y (wn_none rfl) rfl rfl (y_neq_f rfl rfl rfl (by omega)) ?_
      refine sxl_nil ?_
      refine qx_seq ?_
      refine sx_false rfl ?_
      refine sx_skip ?_
      refine qx_seq ?_
      refine sx_seq ?_
      refine sx_region ?_
      iterate 2 refine sxl_y (wn_none rfl) rfl rfl (yp rfl) ?_
      refine sxl_y (wn_none rfl) rfl rfl (y_stt rfl rfl rfl hMc) ?_
      refine sxl_y (wn_none rfl) rfl rfl (y_add rfl rfl rfl (by omega)) ?_
      refine sxl_does none (wn_none rfl) rfl rfl (fun ρ hρ => does_stt (k := n) (v := cnt n + 1) rfl (hρ _ _ rfl) (hρ _ _ rfl) (hρ _ _ rfl) hMc) ?_
      rintro _ w4 ⟨rfl, hf4, hMc4⟩
      have hself : updS cnt n (cnt n + 1) n = cnt n + 1 := by simp [updS]
      have hcnt' : ∀ k, updS cnt n (cnt n + 1) k = ((l.take (i + 1)).count k : Int) := by
        intro k
        rw [hts, List.count_append]
        unfold updS
        by_cases hk : k = n
        · subst hk; rw [if_pos rfl, hcnt k]; simp
        · rw [if_neg hk, hcnt k]; simp [Ne.symm hk]
      have hin' : ∀ m ∈ l.take (i + 1), 2 ≤ m ∧ m < (p.pages : Int) := by
        intro m hm
        rw [hts] at hm
        rcases List.mem_append.1 hm with hm | hm
        · exact hin m hm
        · obtain rfl : m = n := by simpa using hm
          omega
      have hmore : 1 < updS cnt n (cnt n + 1) n ↔ n ∈ l.take i := by
        rw [hself, hcn]
        constructor
        · intro h1
          exact List.count_pos_iff.1 (by omega)
        · intro h1
          have := List.count_pos_iff.2 h1
          omega
      have fin : ∀ tw', (tw' = false ↔ (l.take (i + 1)).Nodup) → ∃ (i' : Nat) (cnt' : Int → Int) (tw'' : Bool), [(35, Value.int .i64 ((i + 1 : Nat) : Int)), (34, .int .i64 (l.length : Int)), (33, .slice (some ⟨b, off, none⟩) l.length c), (9, .bool tw'), (8, .map (some gc)), (0, .pointer (some ⟨Q.gp, 0, none⟩)), (1, .slice (some ⟨b, off, none⟩) l.length c)] = [(35, Value.int .i64 (i' : Int)), (34, .int .i64 (l.length : Int)), (33, .slice (some ⟨b, off, none⟩) l.length c), (9, .bool tw''), (8, .map (some gc)), (0, .pointer (some ⟨Q.gp, 0, none⟩)), (1, .slice (some ⟨b, off, none⟩) l.length c)] ∧ i' ≤ l.length ∧ Stt w4 gc cnt' ∧ (∀ k, cnt' k = ((l.take i').count k : Int)) ∧ (tw'' = false ↔ (l.take i').Nodup) ∧ (∀ n ∈ l.take i', 2 ≤ n ∧ n < (p.pages : Int)) ∧ Fr (fun b => b = gc) w3 w4 ∧ l.length - (i + 1) = l.length - i' :=
        fun tw' ht => ⟨i + 1, _, tw', rfl, hlt, hMc4, hcnt', ht, hin', hfr3.trans hf4, rfl⟩
      cases tw with
      | true =>
        refine sxl_nil ?_
        refine qx_seq ?_
        refine sx_region ?_
        iterate 2 refine sxl_y (wn_none rfl) rfl rfl (yp rfl) ?_
        refine sxl_off rfl rfl rfl rfl rfl rfl ?_
        refine sxl_off rfl rfl rfl rfl rfl rfl ?_
        refine sxl_off rfl rfl rfl rfl rfl rfl ?_
        refine sxl_off rfl rfl rfl rfl rfl rfl ?_
        iterate 2 refine sxl_y (wn_none rfl) rfl rfl (yp rfl) ?_
        refine sxl_nil ?_
        refine qx_block_normal ?_
        refine qx_seq ?_
        refine sx_region ?_
        refine sxl_y (wn_none rfl) rfl rfl (y_add rfl rfl rfl (by omega)) ?_
        refine sxl_y (wn_none rfl) rfl rfl (yp rfl) ?_
        refine sxl_nil ?_
        exact qx_again [(35, Value.int .i64 ((i + 1 : Nat) : Int)), (34, .int .i64 (l.length : Int)), (33, .slice (some ⟨b, off, none⟩) l.length c), (9, .bool true), (8, .map (some gc)), (0, .pointer (some ⟨Q.gp, 0, none⟩)), (1, .slice (some ⟨b, off, none⟩) l.length c)] (l.length - (i + 1)) (fin true (by
          rw [hts, nodup_snoc]
          constructor
          · intro e; cases e
          · intro e; have := htw.2 e.1; cases this)) (by omega) ⟨rfl, rfl, rfl, rfl, rfl, rfl, rfl, trivial⟩
      | false =>
        by_cases hm : n ∈ l.take i
        · have hgt := hmore.2 hm
          refine sxl_nil ?_
          refine qx_seq ?_
          refine sx_region ?_
          iterate 2 refine sxl_y (wn_none rfl) rfl rfl (yp rfl) ?_
          refine sxl_y (wn_on rfl rfl rfl) rfl rfl (yp rfl) ?_
          refine sxl_y (wn_on rfl rfl rfl) rfl rfl (yp rfl) ?_
          refine sxl_y (wn_on rfl rfl rfl) rfl rfl (y_stt rfl rfl rfl hMc4) ?_
          refine sxl_y (wn_on rfl rfl rfl) rfl rfl (y_gtr_t rfl rfl rfl (by omega)) ?_
          iterate 2 refine sxl_y (wn_none rfl) rfl rfl (yp rfl) ?_
          refine sxl_nil ?_
          refine qx_block_normal ?_
          refine qx_seq ?_
          refine sx_region ?_
          refine sxl_y (wn_none rfl) rfl rfl (y_add rfl rfl rfl (by omega)) ?_
          refine sxl_y (wn_none rfl) rfl rfl (yp rfl) ?_
          refine sxl_nil ?_
          exact qx_again [(35, Value.int .i64 ((i + 1 : Nat) : Int)), (34, .int .i64 (l.length : Int)), (33, .slice (some ⟨b, off, none⟩) l.length c), (9, .bool true), (8, .map (some gc)), (0, .pointer (some ⟨Q.gp, 0, none⟩)), (1, .slice (some ⟨b, off, none⟩) l.length c)] (l.length - (i + 1)) (fin true (by
            rw [hts, nodup_snoc]
            constructor
            · intro e; cases e
            · intro e; exact absurd hm e.2)) (by omega) ⟨rfl, rfl, rfl, rfl, rfl, rfl, rfl, trivial⟩
        · have hgt : ¬ 1 < updS cnt n (cnt n + 1) n := fun e => hm (hmore.1 e)
          refine sxl_nil ?_
          refine qx_seq ?_
          refine sx_region ?_
          iterate 2 refine sxl_y (wn_none rfl) rfl rfl (yp rfl) ?_
          refine sxl_y (wn_on rfl rfl rfl) rfl rfl (yp rfl) ?_
          refine sxl_y (wn_on rfl rfl rfl) rfl rfl (yp rfl) ?_
          refine sxl_y (wn_on rfl rfl rfl) rfl rfl (y_stt rfl rfl rfl hMc4) ?_
          refine sxl_y (wn_on rfl rfl rfl) rfl rfl (y_gtr_f rfl rfl rfl (by omega)) ?_
          iterate 2 refine sxl_y (wn_none rfl) rfl rfl (yp rfl) ?_
          refine sxl_nil ?_
          refine qx_block_normal ?_
          refine qx_seq ?_
          refine sx_region ?_
          refine sxl_y (wn_none rfl) rfl rfl (y_add rfl rfl rfl (by omega)) ?_
          refine sxl_y (wn_none rfl) rfl rfl (yp rfl) ?_
          refine sxl_nil ?_
          exact qx_again [(35, Value.int .i64 ((i + 1 : Nat) : Int)), (34, .int .i64 (l.length : Int)), (33, .slice (some ⟨b, off, none⟩) l.length c), (9, .bool false), (8, .map (some gc)), (0, .pointer (some ⟨Q.gp, 0, none⟩)), (1, .slice (some ⟨b, off, none⟩) l.length c)] (l.length - (i + 1)) (fin false (by
            rw [hts, nodup_snoc]
            exact ⟨fun _ => ⟨htw.1 rfl, hm⟩, fun _ => rfl⟩)) (by omega) ⟨rfl, rfl, rfl, rfl, rfl, rfl, rfl, trivial⟩
    obtain rfl : i = l.length := by omega
    rw [List.take_length] at htw hin hcnt
    have hgood : ∀ n ∈ l, 2 ≤ n ∧ n < (p.pages : Int) := hin
    cases tw with
    | true =>
      refine sx_seq ?_
      refine sx_region ?_
      refine sxl_y (wn_none rfl) rfl rfl (y_lss_f rfl rfl rfl (by omega)) ?_
      refine sxl_nil ?_
      refine qx_seq ?_
      refine sx_seq ?_
      refine sx_false rfl ?_
      refine sx_exit ?_
      refine qx_then_exit ?_
      refine qx_then_exit ?_
      refine qx_block_hit ?_
      refine qx_seq ?_
      refine sx_seq ?_
      refine sx_seq ?_
      refine sx_region ?_
      refine sxl_y (wn_none rfl) rfl rfl (yp rfl) ?_
      refine sxl_nil ?_
      refine qx_seq ?_
      refine sx_true rfl ?_
      refine sx_seq ?_
      refine sx_region ?_
      refine sxl_y (wn_none rfl) rfl rfl (yp rfl) ?_
      refine sxl_nil ?_
      refine qx_seq ?_
      refine sx_ret ?_
      refine qx_then_ret ?_
      refine qx_ret1 rfl rfl ?_
      exact ⟨6, Q, p, rfl, .inr ⟨hg, .inr ⟨hst, .inr ⟨hgood, .inl ⟨fun hn => by (have := htw.2 hn; cases this), rfl, rfl⟩⟩⟩⟩, .refl h hf0r⟩
    | false =>
      have hnd := htw.1 rfl
      refine sx_seq ?_
      refine sx_region ?_
      refine sxl_y (wn_none rfl) rfl rfl (y_lss_f rfl rfl rfl (by omega)) ?_
      refine sxl_nil ?_
      refine qx_seq ?_
      refine sx_seq ?_
      refine sx_false rfl ?_
      refine sx_exit ?_
      refine qx_then_exit ?_
      refine qx_then_exit ?_
      refine qx_block_hit ?_
      refine qx_seq ?_
      refine sx_seq ?_
      refine sx_seq ?_
      refine sx_region ?_
      refine sxl_y (wn_none rfl) rfl rfl (yp rfl) ?_
      refine sxl_nil ?_
      refine qx_seq ?_
      refine sx_false rfl ?_
      refine sx_skip ?_
      refine qx_seq ?_
      refine sx_seq ?_
      refine sx_region ?_
      refine sxl_y (wn_none rfl) rfl rfl (yp rfl) ?_
      refine sxl_does (some 62) (wn_none rfl) rfl rfl (fun ρ hρ => does_mapS rfl) ?_
      rintro _ w5 ⟨gn, rfl, hn1, hn2, hMn, hf5⟩
      have hf05 := hf0r.trans hf5
      have h5 := h.fr0 hf05
      iterate 2 refine sxl_y (wn_none rfl) rfl rfl (yp rfl) ?_
      refine sxl_does none (wn_none rfl) rfl rfl (fun ρ hρ => does_store1 80 (.tmp 64) (.tmp 62) rfl Q.gp 4 82 _ (.map (some gn)) (hρ _ _ rfl) (hρ _ _ rfl) rfl h5.hd (by kernel_rfl) (by simp [PS.cells]) rfl) ?_
      rintro _ w6 ⟨rfl, hb6, hf6⟩
      have hsz5 := hf0r.size
      have hpl := h.hd.lt
      have hMn6 := hMn.fr hf6 (by omega)
      have c46 : Cell w6.heap Q.gp 4 (.map (some gn)) := hb6.c 4 rfl
      refine sxl_nil ?_
      refine qx_seq ?_
      refine sx_seq ?_
      refine sx_seq ?_
      refine sx_region ?_
      refine sxl_y (wn_none rfl) rfl rfl (yp rfl) ?_
      refine sxl_y (wn_none rfl) rfl rfl (y_len rfl rfl (sl rfl)) ?_
      refine sxl_y (wn_none rfl) rfl rfl (yp rfl) ?_
      refine sxl_nil ?_
      refine qx_seq ?_
      refine sx_block ?_
      refine sx_loop (fun e wr m => ∃ (i : Nat) (st : Int → Int), e = [(67, .int .i64 (i : Int)), (66, .int .i64 (l.length : Int)), (65, .slice A l.length c), (0, .pointer (some ⟨Q.gp, 0, none⟩))] ∧ i ≤ l.length ∧ Stt wr gn st ∧ (∀ k, st k = usedOf (l.take i) k) ∧ Fr (fun b => b = gn) w6 wr ∧ m = l.length - i)
        ⟨0, _, rfl, Nat.zero_le _, hMn6, (fun k => by simp [usedOf]), Fr.refl, rfl⟩ ⟨rfl, rfl, rfl, rfl, trivial⟩ ?_
      rintro _ w7 _ ⟨i, st, rfl, hi, hMn7, hst7, hf7, rfl⟩
      have hf67 : Fr (fun b => b = Q.gp) w w7 := ((Fr.of0 hf05 : Fr (fun b => b = Q.gp) w w5).trans hf6).step hf7 (fun b hb e => by omega)
      have c47 : Cell w7.heap Q.gp 4 (.map (some gn)) := c46.fr hf7 (by omega)
      by_cases hlt : i < l.length
      · obtain ⟨n, hx⟩ : ∃ n, l[i]? = some n := ⟨_, List.getElem?_eq_getElem hlt⟩
        obtain ⟨b, off, rfl, ce⟩ := rd_int hr hx
        have hne : b ≠ Q.gp := hA b off rfl
        have hbl : b < w.heap.size := World.block_lt_of_cell? w _ (ce.get w rfl)
        have ce7 : Cell w7.heap b (off + i * 1) (.int .i64 n) := ce.fr hf67 hne
        have hts := take_snoc hx
        refine sx_seq ?_
        refine sx_region ?_
        refine sxl_y (wn_none rfl) rfl rfl (y_lss_t rfl rfl rfl (by omega)) ?_
        refine sxl_nil ?_
        refine qx_seq ?_
        refine sx_seq ?_
        refine sx_true rfl ?_
        refine sx_skip ?_
        refine qx_seq ?_
        refine sx_seq ?_
        refine sx_block ?_
        refine sx_seq ?_
        refine sx_region ?_
        refine sxl_y (wn_none rfl) rfl rfl (y_indexN rfl rfl rfl (sl rfl) (by omega)) ?_
        refine sxl_y (wn_none rfl) rfl rfl (y_load rfl rfl (sc rfl) (by assumption)) ?_
        refine sxl_y (wn_none rfl) rfl rfl (yp rfl) ?_
        refine sxl_nil ?_
        refine qx_seq ?_
        refine sx_region ?_
        iterate 3 refine sxl_y (wn_none rfl) rfl rfl (yp rfl) ?_
        refine sxl_y (wn_none rfl) rfl rfl (y_load rfl rfl (sc rfl) (by assumption)) ?_
        refine sxl_y (wn_none rfl) rfl rfl (yp rfl) ?_
        refine sxl_does none (wn_none rfl) rfl rfl (fun ρ hρ => does_stt (k := n) (v := 1) rfl (hρ _ _ rfl) (hρ _ _ rfl) (hρ _ _ rfl) hMn7) ?_
        rintro _ w8 ⟨rfl, hf8, hMn8⟩
        refine sxl_nil ?_
        refine qx_block_normal ?_
        refine qx_seq ?_
        refine sx_region ?_
        refine sxl_y (wn_none rfl) rfl rfl (y_add rfl rfl rfl (by omega)) ?_
        refine sxl_y (wn_none rfl) rfl rfl (yp rfl) ?_
        refine sxl_nil ?_
        exact qx_again [(67, Value.int .i64 ((i + 1 : Nat) : Int)), (66, .int .i64 (l.length : Int)), (65, .slice (some ⟨b, off, none⟩) l.length c), (0, .pointer (some ⟨Q.gp, 0, none⟩))] (l.length - (i + 1)) ⟨i + 1, _, rfl, hlt, hMn8, (fun k => by
          rw [hts]
          unfold updS
          by_cases hk : k = n
          · subst hk; simp [usedOf]
          · rw [if_neg hk, hst7 k]; simp [usedOf, hk]), hf7.trans hf8, rfl⟩ (by omega) ⟨rfl, rfl, rfl, rfl, trivial⟩
      · obtain rfl : i = l.length := by omega
        rw [List.take_length] at hst7
        refine sx_seq ?_
        refine sx_region ?_
        refine sxl_y (wn_none rfl) rfl rfl (y_lss_f rfl rfl rfl (by omega)) ?_
        refine sxl_nil ?_
        refine qx_seq ?_
        refine sx_seq ?_
        refine sx_false rfl ?_
        refine sx_exit ?_
        refine qx_then_exit ?_
        refine qx_then_exit ?_
        refine qx_block_hit ?_
        refine qx_seq ?_
        refine sx_seq ?_
        refine sx_region ?_
        refine sxl_y (wn_none rfl) rfl rfl (yp rfl) ?_
        refine sxl_nil ?_
        refine qx_seq ?_
        refine sx_ret ?_
        refine qx_ret1 rfl rfl ?_
        refine ⟨0, { Q with gm := gn }, _, rfl, .inr ⟨hg, .inr ⟨hst, .inr ⟨hgood, .inr ⟨hnd, rfl, rfl⟩⟩⟩⟩, ?_⟩
        refine ⟨⟨h.dk.fr hf67 (fun _ hb e => h.gpL (e ▸ hb)) h.kp, hb6.fr hf7 (by omega), hMn7.ext (fun k => (hst7 k).symm), h.kp⟩, rfl, rfl, hf67.mono (fun _ _ e => .inl e), ?_, rfl⟩
        rintro b (rfl | hb | hb)
        · exact .inl (.inl rfl)
        · have hb : b = gn := hb
          exact .inr (by omega)
        · exact .inl (.inr (.inr hb))
end
end Go.Proofs.YthdlljlcffokbaaDoor
namespace Go.Proofs.YthdlljlcffokbaaDoor
open Go.RowKit

/-- One of two, one step for the kernel. -/
noncomputable def bo {α : Type} (b : Bool) (t f : α) : α := @Bool.rec (fun _ => α) f t b
theorem bo_true {α : Type} (t f : α) : bo true t f = t := rfl
theorem bo_false {α : Type} (t f : α) : bo false t f = f := rfl
noncomputable def oo {α β : Type} (x : Option α) (n : β) (s : α → β) : β := @Option.rec α (fun _ => β) n s x
theorem oo_some {α β : Type} (v : α) (n : β) (s : α → β) : oo (some v) n s = s v := rfl
theorem oo_none {α β : Type} (n : β) (s : α → β) : oo none n s = n := rfl
theorem bo_inv {α : Type} {b : Bool} {t f r : α} (h : bo b t f = r) (hf : f ≠ r) : b = true ∧ t = r := by
  cases b with
  | true => exact ⟨rfl, h⟩
  | false => exact absurd h hf
theorem oo_inv {α β : Type} {x : Option α} {n : β} {s : α → β} {r : β} (h : oo x n s = r) (hn : n ≠ r) : ∃ v, x = some v ∧ s v = r := by
  cases x with
  | none => exact absurd h hn
  | some v => exact ⟨v, rfl, h⟩

/-- Four of a kind. -/
structure Nd (α : Type) where
  a : α
  b : α
  c : α
  d : α
/-- A tower of so many floors: a place for each number below 4^m. -/
def QT (α : Type) (m : Nat) : Type := @Nat.rec (fun _ => Type) (Option α) (fun _ T => Nd T) m
noncomputable def QT.emp (α : Type) (m : Nat) : QT α m := @Nat.rec (QT α) (none : Option α) (fun m ih => (Nd.mk ih ih ih ih : Nd (QT α m))) m
noncomputable def dig4 {β : Type} (n : Nat) (x0 x1 x2 x3 : β) : β := bo (Nat.beq n 0) x0 (bo (Nat.beq n 1) x1 (bo (Nat.beq n 2) x2 x3))
theorem dig4_eq {β : Type} (n : Nat) (x0 x1 x2 x3 : β) : dig4 n x0 x1 x2 x3 = if n = 0 then x0 else if n = 1 then x1 else if n = 2 then x2 else x3 := by
  match n with
  | 0 => rfl
  | 1 => rfl
  | 2 => rfl
  | n + 3 => rw [if_neg (by omega), if_neg (by omega), if_neg (by omega)]; rfl
def qget {α : Type} : (m : Nat) → Nat → QT α m → Option α
  | 0, _, q => q
  | m + 1, k, q => have q : Nd (QT α m) := q; if k / 4 ^ m = 0 then qget m (k % 4 ^ m) q.a else if k / 4 ^ m = 1 then qget m (k % 4 ^ m) q.b else if k / 4 ^ m = 2 then qget m (k % 4 ^ m) q.c else qget m (k % 4 ^ m) q.d
def qput {α : Type} (v : Option α) : (m : Nat) → Nat → QT α m → QT α m
  | 0, _, _ => v
  | m + 1, k, q => have q : Nd (QT α m) := q; if k / 4 ^ m = 0 then (Nd.mk (qput v m (k % 4 ^ m) q.a) q.b q.c q.d : Nd (QT α m)) else if k / 4 ^ m = 1 then (Nd.mk q.a (qput v m (k % 4 ^ m) q.b) q.c q.d : Nd (QT α m)) else if k / 4 ^ m = 2 then (Nd.mk q.a q.b (qput v m (k % 4 ^ m) q.c) q.d : Nd (QT α m)) else (Nd.mk q.a q.b q.c (qput v m (k % 4 ^ m) q.d) : Nd (QT α m))
theorem qget_succ {α : Type} (m k : Nat) (q : Nd (QT α m)) : qget (m + 1) k (q : QT α (m + 1)) = if k / 4 ^ m = 0 then qget m (k % 4 ^ m) q.a else if k / 4 ^ m = 1 then qget m (k % 4 ^ m) q.b else if k / 4 ^ m = 2 then qget m (k % 4 ^ m) q.c else qget m (k % 4 ^ m) q.d := rfl
theorem qput_succ {α : Type} (v : Option α) (m k : Nat) (q : Nd (QT α m)) : qput v (m + 1) k (q : QT α (m + 1)) = if k / 4 ^ m = 0 then (Nd.mk (qput v m (k % 4 ^ m) q.a) q.b q.c q.d : Nd (QT α m)) else if k / 4 ^ m = 1 then (Nd.mk q.a (qput v m (k % 4 ^ m) q.b) q.c q.d : Nd (QT α m)) else if k / 4 ^ m = 2 then (Nd.mk q.a q.b (qput v m (k % 4 ^ m) q.c) q.d : Nd (QT α m)) else (Nd.mk q.a q.b q.c (qput v m (k % 4 ^ m) q.d) : Nd (QT α m)) := rfl
theorem qget_emp {α : Type} : ∀ (m k : Nat), qget m k (QT.emp α m) = none
  | 0, _ => rfl
  | m + 1, k => by
    have h := qget_emp (α := α) m (k % 4 ^ m)
    have e : QT.emp α (m + 1) = (Nd.mk (QT.emp α m) (QT.emp α m) (QT.emp α m) (QT.emp α m) : Nd (QT α m)) := rfl
    rw [e, qget_succ]
    simp only [h, ite_self]
theorem div_lt4 {k m : Nat} (h : k < 4 ^ (m + 1)) : k / 4 ^ m < 4 := Nat.div_lt_of_lt_mul (by rw [Nat.pow_succ] at h; exact h)
theorem pow4_pos (m : Nat) : 0 < 4 ^ m := Nat.pow_pos (by omega)
theorem qget_qput {α : Type} (v : Option α) : ∀ (m k j : Nat) (q : QT α m), k < 4 ^ m → j < 4 ^ m → qget m j (qput v m k q) = if j = k then v else qget m j q
  | 0, k, j, q, hk, hj => by
    have : j = k := by simp at hk hj; omega
    rw [if_pos this]; rfl
  | m + 1, k, j, q, hk, hj => by
    have ih := fun (q : QT α m) => qget_qput v m (k % 4 ^ m) (j % 4 ^ m) q (Nat.mod_lt _ (pow4_pos m)) (Nat.mod_lt _ (pow4_pos m))
    have hk4 := div_lt4 hk
    have hj4 := div_lt4 hj
    have ek := Nat.div_add_mod k (4 ^ m)
    have ej := Nat.div_add_mod j (4 ^ m)
    have hkj : j = k ↔ (j / 4 ^ m = k / 4 ^ m ∧ j % 4 ^ m = k % 4 ^ m) := ⟨fun e => by rw [e]; exact ⟨rfl, rfl⟩, fun ⟨e1, e2⟩ => by rw [← ek, ← ej, e1, e2]⟩
    generalize hK : k / 4 ^ m = K at hk4 hkj
    generalize hJ : j / 4 ^ m = J at hj4 hkj
    have hp := qput_succ v m k q
    have hg : ∀ q : Nd (QT α m), qget (m + 1) j q = if j / 4 ^ m = 0 then qget m (j % 4 ^ m) q.a else if j / 4 ^ m = 1 then qget m (j % 4 ^ m) q.b else if j / 4 ^ m = 2 then qget m (j % 4 ^ m) q.c else qget m (j % 4 ^ m) q.d := fun q => qget_succ m j q
    rw [hK] at hp
    rw [hJ] at hg
    rw [hp, hg q]
    match K, hk4 with
    | 0, _ => rw [if_pos rfl, hg]; match J, hj4 with
      | 0, _ => simp only [if_true, ih]; by_cases e : j % 4 ^ m = k % 4 ^ m <;> simp [hkj, e]
      | 1, _ => simp [hkj]
      | 2, _ => simp [hkj]
      | 3, _ => simp [hkj]
    | 1, _ => rw [if_neg (by omega), if_pos rfl, hg]; match J, hj4 with
      | 0, _ => simp [hkj]
      | 1, _ => simp only [Nat.one_ne_zero, if_false, if_true, ih]; by_cases e : j % 4 ^ m = k % 4 ^ m <;> simp [hkj, e]
      | 2, _ => simp [hkj]
      | 3, _ => simp [hkj]
    | 2, _ => rw [if_neg (by omega), if_neg (by omega), if_pos rfl, hg]; match J, hj4 with
      | 0, _ => simp [hkj]
      | 1, _ => simp [hkj]
      | 2, _ =>
        show qget m (j % 4 ^ m) (qput v m (k % 4 ^ m) _) = if j = k then v else qget m (j % 4 ^ m) _
        rw [ih]; by_cases e : j % 4 ^ m = k % 4 ^ m <;> simp [hkj, e]
      | 3, _ => simp [hkj]
    | 3, _ => rw [if_neg (by omega), if_neg (by omega), if_neg (by omega), hg]; match J, hj4 with
      | 0, _ => simp [hkj]
      | 1, _ => simp [hkj]
      | 2, _ => simp [hkj]
      | 3, _ =>
        show qget m (j % 4 ^ m) (qput v m (k % 4 ^ m) _) = if j = k then v else qget m (j % 4 ^ m) _
        rw [ih]; by_cases e : j % 4 ^ m = k % 4 ^ m <;> simp [hkj, e]
/-- What looks up a number: made once for each number, a function without choices. -/
structure GB (α : Type) (m : Nat) where
  f : QT α m → Option α
noncomputable def gstep (α : Type) (m k : Nat) (f : QT α m → Option α) : GB α (m + 1) := dig4 (Nat.div k (Nat.pow 4 m))
    (GB.mk (m := m + 1) (fun q => @Nd.rec (QT α m) (fun _ => Option α) (fun a _ _ _ => f a) q)) (GB.mk (m := m + 1) (fun q => @Nd.rec (QT α m) (fun _ => Option α) (fun _ b _ _ => f b) q))
    (GB.mk (m := m + 1) (fun q => @Nd.rec (QT α m) (fun _ => Option α) (fun _ _ c _ => f c) q)) (GB.mk (m := m + 1) (fun q => @Nd.rec (QT α m) (fun _ => Option α) (fun _ _ _ d => f d) q))
noncomputable def gbox (α : Type) (m : Nat) : Nat → GB α m :=
  @Nat.rec (fun m => Nat → GB α m) (fun _ => GB.mk (m := 0) (fun q => q)) (fun m ih k => @GB.rec α m (fun _ => GB α (m + 1)) (gstep α m k) (ih (Nat.mod k (Nat.pow 4 m)))) m
theorem gbox_eq {α : Type} : ∀ (m k : Nat) (q : QT α m), (gbox α m k).f q = qget m k q
  | 0, _, _ => rfl
  | m + 1, k, q => by
    have ih := fun q => gbox_eq (α := α) m (k % 4 ^ m) q
    show (gstep α m k (gbox α m (k % 4 ^ m)).f).f q = _
    rw [show qget (m + 1) k q = _ from qget_succ m k q]
    unfold gstep
    rw [dig4_eq]
    have e : Nat.div k (Nat.pow 4 m) = k / 4 ^ m := rfl
    rw [e]
    split
    · exact ih _
    · split
      · exact ih _
      · split
        · exact ih _
        · exact ih _
/-- A table by numbers. -/
structure Tb (α : Type) where
  m : Nat
  q : QT α m
noncomputable def gtop (α : Type) (m k : Nat) : GB α m := bo (Nat.blt k (Nat.pow 4 m)) (gbox α m k) ⟨fun _ => none⟩
/-- What writes at a number. -/
structure UB (α β : Type) (m : Nat) where
  f : QT α m → Option α → (QT α m → β) → β
noncomputable def ustep (α β : Type) (m k : Nat) (f : QT α m → Option α → (QT α m → β) → β) : UB α β (m + 1) := dig4 (Nat.div k (Nat.pow 4 m))
    (UB.mk (m := m + 1) (fun q v K => @Nd.rec (QT α m) (fun _ => β) (fun a b c d => f a v (fun x => K (Nd.mk x b c d : Nd (QT α m)))) q)) (UB.mk (m := m + 1) (fun q v K => @Nd.rec (QT α m) (fun _ => β) (fun a b c d => f b v (fun x => K (Nd.mk a x c d : Nd (QT α m)))) q))
    (UB.mk (m := m + 1) (fun q v K => @Nd.rec (QT α m) (fun _ => β) (fun a b c d => f c v (fun x => K (Nd.mk a b x d : Nd (QT α m)))) q)) (UB.mk (m := m + 1) (fun q v K => @Nd.rec (QT α m) (fun _ => β) (fun a b c d => f d v (fun x => K (Nd.mk a b c x : Nd (QT α m)))) q))
noncomputable def ubox (α β : Type) (m : Nat) : Nat → UB α β m :=
  @Nat.rec (fun m => Nat → UB α β m) (fun _ => UB.mk (m := 0) (fun _ v K => K v)) (fun m ih k => @UB.rec α β m (fun _ => UB α β (m + 1)) (ustep α β m k) (ih (Nat.mod k (Nat.pow 4 m)))) m
theorem ubox_eq {α β : Type} (v : Option α) : ∀ (m k : Nat) (q : QT α m) (K : QT α m → β), (ubox α β m k).f q v K = K (qput v m k q)
  | 0, _, _, _ => rfl
  | m + 1, k, q, K => by
    have ih := fun q K => ubox_eq (β := β) v m (k % 4 ^ m) q K
    show (ustep α β m k (ubox α β m (k % 4 ^ m)).f).f q v K = _
    rw [show qput v (m + 1) k q = _ from qput_succ v m k q]
    unfold ustep
    rw [dig4_eq]
    have e : Nat.div k (Nat.pow 4 m) = k / 4 ^ m := rfl
    rw [e]
    split
    · exact ih _ _
    · split
      · exact ih _ _
      · split
        · exact ih _ _
        · exact ih _ _
structure LB (α β : Type) (m : Nat) where
  f : QT α m → Option α → (Tb α → β) → β
noncomputable def lhere (α β : Type) (m : Nat) (f : QT α m → Option α → (QT α m → β) → β) : LB α β m := ⟨fun q v K => f q v (fun x => K ⟨m, x⟩)⟩
noncomputable def lover (α β : Type) (m : Nat) (f : QT α (m + 1) → Option α → (Tb α → β) → β) : LB α β m := ⟨fun q v K => f (Nd.mk q (QT.emp α m) (QT.emp α m) (QT.emp α m) : Nd (QT α m)) v K⟩
noncomputable def ltop (α β : Type) (fuel : Nat) : (m k : Nat) → LB α β m :=
  @Nat.rec (fun _ => (m k : Nat) → LB α β m) (fun m k => @UB.rec α β m (fun _ => LB α β m) (lhere α β m) (ubox α β m k))
    (fun _ ih m k => bo (Nat.blt k (Nat.pow 4 m)) (@UB.rec α β m (fun _ => LB α β m) (lhere α β m) (ubox α β m k)) (@LB.rec α β (m + 1) (fun _ => LB α β m) (lover α β m) (ih (Nat.succ m) k))) fuel
noncomputable def tupd {α : Type} (k : Nat) (v : Option α) : (fuel m : Nat) → QT α m → Tb α
  | 0, m, q => ⟨m, qput v m k q⟩
  | f + 1, m, q => if k < 4 ^ m then ⟨m, qput v m k q⟩ else tupd k v f (m + 1) (Nd.mk q (QT.emp α m) (QT.emp α m) (QT.emp α m) : Nd (QT α m))
theorem ltop_eq {α β : Type} (v : Option α) (k : Nat) : ∀ (fuel m : Nat) (q : QT α m) (K : Tb α → β), (ltop α β fuel m k).f q v K = K (tupd k v fuel m q)
  | 0, m, q, K => by
    show (lhere α β m (ubox α β m k).f).f q v K = _
    exact ubox_eq v m k q _
  | fuel + 1, m, q, K => by
    show (bo (Nat.blt k (Nat.pow 4 m)) (lhere α β m (ubox α β m k).f) (lover α β m (ltop α β fuel (m + 1) k).f)).f q v K = _
    unfold tupd
    by_cases h : k < 4 ^ m
    · have hb : Nat.blt k (Nat.pow 4 m) = true := Nat.ble_eq_true_of_le h
      rw [hb, bo_true, if_pos h]
      exact ubox_eq v m k q _
    · have hb : Nat.blt k (Nat.pow 4 m) = false := by
        cases hq : Nat.blt k (Nat.pow 4 m) with
        | false => rfl
        | true => exact absurd (Nat.le_of_ble_eq_true hq) h
      rw [hb, bo_false, if_neg h]
      exact ltop_eq v k fuel (m + 1) _ K
namespace Tb
variable {α : Type}
noncomputable def lf : Tb α := ⟨0, (none : Option α)⟩
noncomputable def get (t : Tb α) (k : Nat) : Option α := @Tb.rec α (fun _ => Option α) (fun m q => @GB.rec α m (fun _ => Option α) (fun f => f q) (gtop α m k)) t
noncomputable def upd (t : Tb α) (k : Nat) (v : Option α) : Tb α := tupd k v k t.m t.q
noncomputable def put (t : Tb α) (k : Nat) (v : α) : Tb α := t.upd k (some v)
noncomputable def del (t : Tb α) (k : Nat) : Tb α := t.upd k none
theorem get_eq (t : Tb α) (k : Nat) : t.get k = if k < 4 ^ t.m then qget t.m k t.q else none := by
  obtain ⟨m, q⟩ := t
  show (gtop α m k).f q = _
  unfold gtop
  by_cases h : k < 4 ^ m
  · have hb : Nat.blt k (Nat.pow 4 m) = true := Nat.ble_eq_true_of_le h
    rw [hb, bo_true, if_pos h]; exact gbox_eq m k q
  · have hb : Nat.blt k (Nat.pow 4 m) = false := by
      cases hq : Nat.blt k (Nat.pow 4 m) with
      | false => rfl
      | true => exact absurd (Nat.le_of_ble_eq_true hq) h
    rw [hb, bo_false, if_neg h]
theorem get_lift (m : Nat) (q : QT α m) (j : Nat) : (Tb.mk (m + 1) (Nd.mk q (QT.emp α m) (QT.emp α m) (QT.emp α m) : Nd (QT α m))).get j = (Tb.mk m q).get j := by
  rw [get_eq, get_eq]
  simp only
  by_cases h : j < 4 ^ m
  · rw [if_pos h, if_pos (by rw [Nat.pow_succ]; omega), qget_succ, Nat.div_eq_of_lt h, if_pos rfl, Nat.mod_eq_of_lt h]
  · rw [if_neg h]
    by_cases h2 : j < 4 ^ (m + 1)
    · rw [if_pos h2, qget_succ]
      have : j / 4 ^ m ≠ 0 := fun e => by
        have := Nat.div_add_mod j (4 ^ m)
        have := Nat.mod_lt j (pow4_pos m)
        rw [e] at *; omega
      rw [if_neg this]
      simp only [qget_emp, ite_self]
    · rw [if_neg h2]
theorem get_tupd (k : Nat) (v : Option α) (j : Nat) : ∀ (f m : Nat) (q : QT α m), k < 4 ^ (m + f) → (tupd k v f m q).get j = if j = k then v else (Tb.mk m q).get j := by
  have key : ∀ (m : Nat) (q : QT α m), k < 4 ^ m → (Tb.mk m (qput v m k q)).get j = if j = k then v else (Tb.mk m q).get j := fun m q hk => by
    rw [get_eq, get_eq]
    simp only
    by_cases hj : j < 4 ^ m
    · rw [if_pos hj, if_pos hj, qget_qput v m k j q hk hj]
    · rw [if_neg hj, if_neg hj, if_neg (fun e => hj (by rw [e]; exact hk))]
  intro f
  induction f with
  | zero => exact fun m q hk => key m q hk
  | succ f ih =>
    intro m q hk
    unfold tupd
    by_cases h : k < 4 ^ m
    · rw [if_pos h]; exact key m q h
    · rw [if_neg h]
      refine (ih (m + 1) _ (by rw [show m + 1 + f = m + (f + 1) by omega]; exact hk)).trans ?_
      by_cases e : j = k
      · rw [if_pos e, if_pos e]
      · rw [if_neg e, if_neg e]; exact get_lift m q j
theorem lt_pow4 (k : Nat) : k < 4 ^ k := Nat.lt_pow_self (by omega)
theorem get_upd (t : Tb α) (k : Nat) (v : Option α) (j : Nat) : (t.upd k v).get j = if j = k then v else t.get j :=
  get_tupd k v j k t.m t.q (Nat.lt_of_lt_of_le (lt_pow4 k) (Nat.pow_le_pow_right (by omega) (by omega)))
theorem get_lf (k : Nat) : (Tb.lf : Tb α).get k = none := by
  rw [get_eq]
  unfold lf
  simp only
  split <;> rfl
theorem get_put (t : Tb α) (k : Nat) (v : α) (j : Nat) : (t.put k v).get j = if j = k then some v else t.get j := get_upd t k (some v) j
theorem get_del (t : Tb α) (k : Nat) (j : Nat) : (t.del k).get j = if j = k then none else t.get j := get_upd t k none j
theorem get_put_same (t : Tb α) (k : Nat) (v : α) : (t.put k v).get k = some v := by rw [get_put]; simp
end Tb
/-- How many floors so many want. -/
noncomputable def dep (n fuel : Nat) : Nat → Nat := @Nat.rec (fun _ => Nat → Nat) (fun m => m) (fun _ ih m => bo (Nat.ble n (Nat.pow 4 m)) m (ih (Nat.succ m))) fuel
theorem dep_le (n : Nat) : ∀ (f m : Nat), n ≤ 4 ^ (m + f) → n ≤ 4 ^ (dep n f m)
  | 0, m, h => h
  | f + 1, m, h => by
    show n ≤ 4 ^ (bo (Nat.ble n (Nat.pow 4 m)) m (dep n f (m + 1)))
    cases hb : Nat.ble n (Nat.pow 4 m) with
    | true => exact Nat.le_of_ble_eq_true hb
    | false => exact dep_le n f (m + 1) (by rw [show m + 1 + f = m + (f + 1) by omega]; exact h)
theorem dep_ok (n : Nat) : n ≤ 4 ^ (dep n n 0) := dep_le n n 0 (by rw [Nat.zero_add]; exact Nat.le_of_lt (Tb.lt_pow4 n))
/-- A tower out of a list, and what is left of it. -/
structure RD (α : Type) (m : Nat) where
  q : QT α m
  l : List α
noncomputable def qread (α : Type) (m : Nat) : List α → RD α m :=
  @Nat.rec (fun m => List α → RD α m) (fun l => @List.rec α (fun _ => RD α 0) (RD.mk (m := 0) (none : Option α) []) (fun x r _ => RD.mk (m := 0) (some x) r) l)
    (fun m ih l => @List.rec α (fun _ => RD α (m + 1)) (RD.mk (m := m + 1) (QT.emp α (m + 1)) []) (fun _ _ _ => @RD.rec α m (fun _ => RD α (m + 1)) (fun a l1 => @RD.rec α m (fun _ => RD α (m + 1)) (fun b l2 => @RD.rec α m (fun _ => RD α (m + 1)) (fun c l3 => @RD.rec α m (fun _ => RD α (m + 1))
      (fun d l4 => RD.mk (m := m + 1) (Nd.mk a b c d : Nd (QT α m)) l4) (ih l3)) (ih l2)) (ih l1)) (ih l)) l) m
theorem qread_eq {α : Type} : ∀ (m : Nat) (l : List α), (qread α m l).l = l.drop (4 ^ m) ∧ ∀ k, k < 4 ^ m → qget m k (qread α m l).q = l[k]?
  | 0, [] => ⟨rfl, fun k _ => by simp; rfl⟩
  | 0, x :: r => ⟨rfl, fun k hk => by
    obtain rfl : k = 0 := by simp at hk; exact hk
    rfl⟩
  | m + 1, [] => ⟨by simp; rfl, fun k _ => by
    show qget (m + 1) k (QT.emp α (m + 1)) = _
    rw [qget_emp]; simp⟩
  | m + 1, x :: r => by
    generalize hl : x :: r = l
    have e : qread α (m + 1) l = ⟨(Nd.mk (qread α m l).q (qread α m (qread α m l).l).q (qread α m (qread α m (qread α m l).l).l).q (qread α m (qread α m (qread α m (qread α m l).l).l).l).q : Nd (QT α m)), (qread α m (qread α m (qread α m (qread α m l).l).l).l).l⟩ := by
      subst hl; rfl
    obtain ⟨a1, a2⟩ := qread_eq (α := α) m l
    rw [a1] at e
    obtain ⟨b1, b2⟩ := qread_eq (α := α) m (l.drop (4 ^ m))
    rw [b1, List.drop_drop] at e
    obtain ⟨c1, c2⟩ := qread_eq (α := α) m (l.drop (4 ^ m + 4 ^ m))
    rw [c1, List.drop_drop] at e
    obtain ⟨d1, d2⟩ := qread_eq (α := α) m (l.drop (4 ^ m + 4 ^ m + 4 ^ m))
    rw [e]
    refine ⟨?_, fun k hk => ?_⟩
    · show (qread α m (l.drop (4 ^ m + 4 ^ m + 4 ^ m))).l = _
      rw [d1, List.drop_drop]
      congr 1; rw [Nat.pow_succ]; omega
    · show qget (m + 1) k ((Nd.mk _ _ _ _ : Nd (QT α m)) : QT α (m + 1)) = _
      rw [qget_succ]
      have hk4 := div_lt4 hk
      have ek := Nat.div_add_mod k (4 ^ m)
      have hm := Nat.mod_lt k (pow4_pos m)
      generalize k / 4 ^ m = K at hk4 ek ⊢
      generalize k % 4 ^ m = J at hm ek ⊢
      simp only [a2 J hm, b2 J hm, c2 J hm, d2 J hm, List.getElem?_drop]
      match K, hk4 with
      | 0, _ => rw [if_pos rfl]; congr 1; omega
      | 1, _ => rw [if_neg (by omega), if_pos rfl]; congr 1; omega
      | 2, _ => rw [if_neg (by omega), if_neg (by omega), if_pos rfl]; congr 1; omega
      | 3, _ => rw [if_neg (by omega), if_neg (by omega), if_neg (by omega)]; congr 1; omega
noncomputable def lenL {α : Type} (l : List α) : Nat := @List.rec α (fun _ => Nat) 0 (fun _ _ ih => Nat.succ ih) l
theorem lenL_eq {α : Type} : ∀ l : List α, lenL l = l.length
  | [] => rfl
  | _ :: l => congrArg Nat.succ (lenL_eq l)
noncomputable def natT {α : Type} (n : Nat) (f : Nat → Tb α) : Tb α := @Nat.rec (fun _ => Tb α) (f 0) (fun m _ => f (Nat.succ m)) n
theorem natT_eq {α : Type} (n : Nat) (f : Nat → Tb α) : natT n f = f n := by cases n <;> rfl
noncomputable def Tb.of {α : Type} (l : List α) : Tb α := natT (dep (lenL l) (lenL l) 0) (fun m => @RD.rec α m (fun _ => Tb α) (fun q _ => ⟨m, q⟩) (qread α m l))
theorem Tb.get_of {α : Type} (l : List α) (k : Nat) : (Tb.of l).get k = l[k]? := by
  unfold Tb.of
  rw [natT_eq, lenL_eq]
  show (Tb.mk (dep l.length l.length 0) (qread α _ l).q).get k = _
  rw [Tb.get_eq]
  simp only
  have hd := dep_ok l.length
  by_cases h : k < 4 ^ dep l.length l.length 0
  · rw [if_pos h]; exact (qread_eq _ l).2 k h
  · rw [if_neg h, List.getElem?_eq_none (by omega)]
/-- n times the same: the parts are made when they are looked at. -/
noncomputable def qrep {α : Type} (v : α) (m : Nat) : Nat → QT α m :=
  @Nat.rec (fun m => Nat → QT α m) (fun n => (bo (Nat.beq n 0) none (some v) : Option α)) (fun m ih n => (Nd.mk (ih n) (ih (Nat.sub n (Nat.pow 4 m))) (ih (Nat.sub n (Nat.mul 2 (Nat.pow 4 m)))) (ih (Nat.sub n (Nat.mul 3 (Nat.pow 4 m)))) : Nd (QT α m))) m
theorem qrep_eq {α : Type} (v : α) : ∀ (m n k : Nat), k < 4 ^ m → qget m k (qrep v m n) = if k < n then some v else none
  | 0, n, k, hk => by
    obtain rfl : k = 0 := by simp at hk; exact hk
    show (bo (Nat.beq n 0) none (some v) : Option α) = _
    cases n with
    | zero => rfl
    | succ n => rw [if_pos (by omega)]; rfl
  | m + 1, n, k, hk => by
    have e : qrep v (m + 1) n = (Nd.mk (qrep v m n) (qrep v m (n - 4 ^ m)) (qrep v m (n - 2 * 4 ^ m)) (qrep v m (n - 3 * 4 ^ m)) : Nd (QT α m)) := rfl
    rw [e, qget_succ]
    have hk4 := div_lt4 hk
    have ek := Nat.div_add_mod k (4 ^ m)
    have hm := Nat.mod_lt k (pow4_pos m)
    generalize k / 4 ^ m = K at hk4 ek ⊢
    generalize k % 4 ^ m = J at hm ek ⊢
    simp only [qrep_eq v m _ J hm]
    have fin : ∀ (a b : Nat), (J < a ↔ k < b) → (if J < a then some v else none) = if k < b then some v else none := fun a b h => by
      by_cases hh : J < a
      · rw [if_pos hh, if_pos (h.1 hh)]
      · rw [if_neg hh, if_neg (fun h' => hh (h.2 h'))]
    match K, hk4 with
    | 0, _ => rw [if_pos rfl]; exact fin _ _ (by omega)
    | 1, _ => rw [if_neg (by omega), if_pos rfl]; exact fin _ _ (by omega)
    | 2, _ => rw [if_neg (by omega), if_neg (by omega), if_pos rfl]; exact fin _ _ (by omega)
    | 3, _ => rw [if_neg (by omega), if_neg (by omega), if_neg (by omega)]; exact fin _ _ (by omega)
noncomputable def Tb.repN {α : Type} (v : α) (m : Nat) (n : Nat) : Tb α := natT (dep m m 0) (fun d => ⟨d, qrep v d n⟩)
theorem Tb.get_repN {α : Type} (v : α) (n k : Nat) : (Tb.repN v n n).get k = (List.replicate n v)[k]? := by
  unfold Tb.repN
  rw [natT_eq, Tb.get_eq, List.getElem?_replicate]
  simp only
  have hd := dep_ok n
  by_cases h : k < 4 ^ dep n n 0
  · rw [if_pos h, qrep_eq v _ n k h]
  · rw [if_neg h, if_neg (by omega)]
/-- The same at once: what is written is looked at, so that no work is left behind. -/
noncomputable def updSm {α β : Type} (t : Tb α) (k : Nat) (v : Option α) (f : Tb α → β) : β := @Tb.rec α (fun _ => β) (fun m q => @LB.rec α β m (fun _ => β) (fun g => g q v f) (ltop α β k m k)) t
theorem updS_eq {α β : Type} (t : Tb α) (k : Nat) (v : Option α) (f : Tb α → β) : updSm t k v f = f (t.upd k v) := by
  obtain ⟨m, q⟩ := t
  exact ltop_eq v k k m q f
noncomputable def putS {α β : Type} (t : Tb α) (k : Nat) (v : α) (f : Tb α → β) : β := updSm t k (some v) f
theorem putS_eq {α β : Type} (t : Tb α) (k : Nat) (v : α) (f : Tb α → β) : putS t k v f = f (t.put k v) := updS_eq _ _ _ _
noncomputable def delS {α β : Type} (t : Tb α) (k : Nat) (f : Tb α → β) : β := updSm t k none f
theorem delS_eq {α β : Type} (t : Tb α) (k : Nat) (f : Tb α → β) : delS t k f = f (t.del k) := updS_eq _ _ _ _
noncomputable def natS {β : Type} (n : Nat) (f : Nat → β) : β := @Nat.rec (fun _ => β) (f 0) (fun m _ => f (Nat.succ m)) n
theorem natS_eq {β : Type} (n : Nat) (f : Nat → β) : natS n f = f n := by cases n <;> rfl
noncomputable def listS {α β : Type} (l : List α) : (List α → β) → β := @List.rec α (fun _ => (List α → β) → β) (fun f => f []) (fun x _ ih f => ih (fun l => f (x :: l))) l
theorem listS_eq {α β : Type} : ∀ (l : List α) (f : List α → β), listS l f = f l
  | [], _ => rfl
  | x :: l, f => by
    show listS l (fun l => f (x :: l)) = _
    rw [listS_eq l]
/-- A value whose numbers are looked at. -/
noncomputable def valS {β : Type} (v : Value) (f : Value → β) : β :=
  match v with
  | .int k (.ofNat m) => natS m (fun m => f (.int k (.ofNat m)))
  | .int k (.negSucc m) => natS m (fun m => f (.int k (.negSucc m)))
  | .bool b => bo b (f (.bool true)) (f (.bool false))
  | .pointer (some ⟨id, off, sp⟩) => natS off (fun off => f (.pointer (some ⟨id, off, sp⟩)))
  | .slice (some ⟨id, off, sp⟩) n c => natS off (fun off => natS n (fun n => natS c (fun c => f (.slice (some ⟨id, off, sp⟩) n c))))
  | v => f v
theorem valS_eq {β : Type} (v : Value) (f : Value → β) : valS v f = f v := by
  unfold valS
  split
  · rw [natS_eq]
  · rw [natS_eq]
  · rename_i b; cases b <;> rfl
  · rw [natS_eq]
  · rw [natS_eq, natS_eq, natS_eq]
  · rfl

/-- Where a numbered block lies: its row, the first cell, the row's size. -/
structure Loc where
  blk : Nat
  base : Nat
  size : Nat
abbrev Sg := Nat → Option Loc

/-- A value that names no place in memory. -/
def scal : Value → Bool
  | .bool _ | .int _ _ | .float _ _ | .complex _ _ _ | .string _ | .pointer none | .slice none _ _ | .map none | .nilFunc | .nilIface => true
  | _ => false
/-- Values of the machine stand for values of the model, one by one. A slice whose address bears a spot z is open: its capacity, of elements of z cells, reaches to the row's end; of one that bears capacity 1 it is only known that it is empty. -/
inductive VRs (σ : Sg) : List Value → List Value → Prop
  | nil : VRs σ [] []
  | sc {us vs : List Value} (v : Value) : scal v = true → VRs σ us vs → VRs σ (v :: us) (v :: vs)
  | ptr {us vs : List Value} {id off : Nat} {L : Loc} : σ id = some L → VRs σ us vs → VRs σ (.pointer (some ⟨id, off, none⟩) :: us) (.pointer (some ⟨L.blk, L.base + off, none⟩) :: vs)
  | sl {us vs : List Value} {id off n c : Nat} {L : Loc} : σ id = some L → VRs σ us vs → VRs σ (.slice (some ⟨id, off, none⟩) n c :: us) (.slice (some ⟨L.blk, L.base + off, none⟩) n c :: vs)
  | slo {us vs : List Value} {id off n c z : Nat} {L : Loc} : σ id = some L → n ≤ c → L.base + off + c * z = L.size → VRs σ us vs → VRs σ (.slice (some ⟨id, off, some z⟩) n 0 :: us) (.slice (some ⟨L.blk, L.base + off, none⟩) n c :: vs)
  | sle {us vs : List Value} {id off z c A : Nat} {L : Loc} : σ id = some L → (c = 0 ∨ A = L.base + off ∧ L.base + off + c * z = L.size) → VRs σ us vs → VRs σ (.slice (some ⟨id, off, some z⟩) 0 1 :: us) (.slice (some ⟨L.blk, A, none⟩) 0 c :: vs)
  | map {us vs : List Value} {id : Nat} {L : Loc} : σ id = some L → VRs σ us vs → VRs σ (.map (some id) :: us) (.map (some L.blk) :: vs)
  | func {us vs xs ys xs' ys' : List Value} (f : FuncId) : VRs σ xs ys → VRs σ xs' ys' → VRs σ us vs → VRs σ (.func (.func f) ⟨xs⟩ ⟨xs'⟩ :: us) (.func (.func f) ⟨ys⟩ ⟨ys'⟩ :: vs)
  | yld {us vs : List Value} {id : Nat} {L : Loc} : σ id = some L → VRs σ us vs → VRs σ (.func (.yield id) ⟨[]⟩ ⟨[]⟩ :: us) (.func (.yield L.blk) ⟨[]⟩ ⟨[]⟩ :: vs)
  | iface {us vs : List Value} {x y : Value} (t : TypeId) : VRs σ [x] [y] → VRs σ us vs → VRs σ (.iface t x :: us) (.iface t y :: vs)
  | agg {us vs xs ys : List Value} : VRs σ xs ys → VRs σ us vs → VRs σ (.agg ⟨xs⟩ :: us) (.agg ⟨ys⟩ :: vs)
  | tuple {us vs xs ys : List Value} : VRs σ xs ys → VRs σ us vs → VRs σ (.tuple ⟨xs⟩ :: us) (.tuple ⟨ys⟩ :: vs)
abbrev VR (σ : Sg) (x y : Value) : Prop := VRs σ [x] [y]

theorem VRs.cons {σ : Sg} {x y : Value} {us vs : List Value} (h : VR σ x y) (t : VRs σ us vs) : VRs σ (x :: us) (y :: vs) := by
  cases h with
  | sc _ h _ => exact .sc _ h t
  | ptr h _ => exact .ptr h t
  | sl h _ => exact .sl h t
  | slo h h1 h2 _ => exact .slo h h1 h2 t
  | sle h h1 _ => exact .sle h h1 t
  | map h _ => exact .map h t
  | func f h h' _ => exact .func f h h' t
  | yld h _ => exact .yld h t
  | iface ty h _ => exact .iface ty h t
  | agg h _ => exact .agg h t
  | tuple h _ => exact .tuple h t
theorem VRs.inv {σ : Sg} {x : Value} {us vs : List Value} (h : VRs σ (x :: us) vs) : ∃ y vs', vs = y :: vs' ∧ VR σ x y ∧ VRs σ us vs' := by
  cases h with
  | sc _ h t => exact ⟨_, _, rfl, .sc _ h .nil, t⟩
  | ptr h t => exact ⟨_, _, rfl, .ptr h .nil, t⟩
  | sl h t => exact ⟨_, _, rfl, .sl h .nil, t⟩
  | slo h h1 h2 t => exact ⟨_, _, rfl, .slo h h1 h2 .nil, t⟩
  | sle h h1 t => exact ⟨_, _, rfl, .sle h h1 .nil, t⟩
  | map h t => exact ⟨_, _, rfl, .map h .nil, t⟩
  | func f h h' t => exact ⟨_, _, rfl, .func f h h' .nil, t⟩
  | yld h t => exact ⟨_, _, rfl, .yld h .nil, t⟩
  | iface ty h t => exact ⟨_, _, rfl, .iface ty h .nil, t⟩
  | agg h t => exact ⟨_, _, rfl, .agg h .nil, t⟩
  | tuple h t => exact ⟨_, _, rfl, .tuple h .nil, t⟩
theorem VRs.inv_nil {σ : Sg} {vs : List Value} (h : VRs σ [] vs) : vs = [] := by cases h; rfl
theorem VRs.len {σ : Sg} : ∀ {us vs : List Value}, VRs σ us vs → us.length = vs.length
  | [], vs, h => by rw [h.inv_nil]
  | x :: us, vs, h => by
    obtain ⟨y, vs', rfl, _, t⟩ := h.inv
    simp [t.len]
theorem VRs.append {σ : Sg} : ∀ {us vs xs ys : List Value}, VRs σ us vs → VRs σ xs ys → VRs σ (us ++ xs) (vs ++ ys)
  | [], vs, _, _, h, h' => by rw [h.inv_nil]; exact h'
  | x :: us, vs, _, _, h, h' => by
    obtain ⟨y, vs', rfl, hx, t⟩ := h.inv
    exact .cons hx (t.append h')
theorem VRs.get {σ : Sg} : ∀ {us vs : List Value} {i : Nat} {x : Value}, VRs σ us vs → us[i]? = some x → ∃ y, vs[i]? = some y ∧ VR σ x y
  | [], _, _, _, _, hx => by simp at hx
  | x :: us, vs, i, v, h, hx => by
    obtain ⟨y, vs', rfl, h1, t⟩ := h.inv
    cases i with
    | zero => simp only [List.getElem?_cons_zero, Option.some.injEq] at hx; subst hx; exact ⟨y, rfl, h1⟩
    | succ i => exact t.get (i := i) (by simpa using hx)
theorem VRs.of_get {σ : Sg} : ∀ {us vs : List Value}, us.length = vs.length → (∀ (i : Nat) (x : Value), us[i]? = some x → ∃ y, vs[i]? = some y ∧ VR σ x y) → VRs σ us vs
  | [], [], _, _ => .nil
  | [], _ :: _, h, _ => by simp at h
  | _ :: _, [], h, _ => by simp at h
  | x :: us, y :: vs, h, hg => by
    obtain ⟨y', hy, hxy⟩ := hg 0 x rfl
    simp only [List.getElem?_cons_zero, Option.some.injEq] at hy
    subst hy
    exact .cons hxy (VRs.of_get (by simpa using h) fun (i : Nat) (x : Value) hx => by simpa using hg (i + 1) x (by simpa using hx))
theorem VRs.drop {σ : Sg} : ∀ {us vs : List Value} (n : Nat), VRs σ us vs → VRs σ (us.drop n) (vs.drop n)
  | us, vs, 0, h => h
  | [], vs, n + 1, h => by rw [h.inv_nil]; exact .nil
  | x :: us, vs, n + 1, h => by
    obtain ⟨y, vs', rfl, _, t⟩ := h.inv
    exact t.drop n
theorem VRs.take {σ : Sg} : ∀ {us vs : List Value} (n : Nat), VRs σ us vs → VRs σ (us.take n) (vs.take n)
  | us, vs, 0, _ => .nil
  | [], vs, n + 1, h => by rw [h.inv_nil]; exact .nil
  | x :: us, vs, n + 1, h => by
    obtain ⟨y, vs', rfl, h1, t⟩ := h.inv
    exact .cons h1 (t.take n)
/-- More places are known. -/
def Sg.le (σ σ' : Sg) : Prop := ∀ id L, σ id = some L → σ' id = some L
theorem Sg.le.refl (σ : Sg) : σ.le σ := fun _ _ h => h
theorem Sg.le.trans {σ σ' σ'' : Sg} (h : σ.le σ') (h' : σ'.le σ'') : σ.le σ'' := fun _ _ e => h' _ _ (h _ _ e)
theorem VRs.mono {σ σ' : Sg} (hs : σ.le σ') {us vs : List Value} (h : VRs σ us vs) : VRs σ' us vs := by
  induction h with
  | nil => exact .nil
  | sc v h _ ih => exact .sc v h ih
  | ptr h _ ih => exact .ptr (hs _ _ h) ih
  | sl h _ ih => exact .sl (hs _ _ h) ih
  | slo h h1 h2 _ ih => exact .slo (hs _ _ h) h1 h2 ih
  | sle h h1 _ ih => exact .sle (hs _ _ h) h1 ih
  | map h _ ih => exact .map (hs _ _ h) ih
  | func f _ _ _ i1 i2 i3 => exact .func f i1 i2 i3
  | yld h _ ih => exact .yld (hs _ _ h) ih
  | iface ty _ _ i1 i2 => exact .iface ty i1 i2
  | agg _ _ i1 i2 => exact .agg i1 i2
  | tuple _ _ i1 i2 => exact .tuple i1 i2
/-- Values that name no place, to any depth. -/
noncomputable def flat1 (ih : List Value → Bool) : Value → Bool
  | .agg ⟨a⟩ => ih a
  | .tuple ⟨a⟩ => ih a
  | .iface _ x => ih [x]
  | .func (.func _) ⟨a⟩ ⟨b⟩ => ih a && ih b
  | v => scal v
noncomputable def flatN (n : Nat) : List Value → Bool :=
  @Nat.rec (fun _ => List Value → Bool) (fun _ => false) (fun _ ih l => @List.rec Value (fun _ => Bool) true (fun v us _ => bo (flat1 ih v) (ih us) false) l) n
theorem flatN_cons (n : Nat) (v : Value) (us : List Value) : flatN (n + 1) (v :: us) = bo (flat1 (flatN n) v) (flatN n us) false := rfl
theorem flatN_ok {σ : Sg} : ∀ (n : Nat) {us : List Value}, flatN n us = true → VRs σ us us
  | 0, us, h => by cases h
  | n + 1, [], _ => .nil
  | n + 1, v :: us, h => by
    rw [flatN_cons] at h
    cases hc : flat1 (flatN n) v with
    | false => rw [hc] at h; cases h
    | true =>
      rw [hc] at h
      have ht := flatN_ok (σ := σ) n (us := us) h
      unfold flat1 at hc
      split at hc
      · exact .agg (flatN_ok n hc) ht
      · exact .tuple (flatN_ok n hc) ht
      · exact .iface _ (flatN_ok n hc) ht
      · simp only [Bool.and_eq_true] at hc
        exact .func _ (flatN_ok n hc.1) (flatN_ok n hc.2) ht
      · exact .sc _ hc ht
theorem VRs.eq_of_flat {σ : Sg} : ∀ (n : Nat) {us vs : List Value}, flatN n us = true → VRs σ us vs → vs = us
  | 0, us, _, h, _ => by cases h
  | n + 1, [], _, _, h' => h'.inv_nil
  | n + 1, v :: us, vs, h, h' => by
    rw [flatN_cons] at h
    cases hc : flat1 (flatN n) v with
    | false => rw [hc] at h; cases h
    | true =>
      rw [hc] at h
      cases h' with
      | sc _ hs t => rw [t.eq_of_flat n h]
      | ptr hs t => cases hc
      | sl hs t => cases hc
      | slo hs _ _ t => cases hc
      | sle hs _ t => cases hc
      | map hs t => cases hc
      | yld hs t => cases hc
      | func f a b t =>
        rw [t.eq_of_flat n h]
        have hc' := Bool.and_eq_true_iff.1 hc
        rw [a.eq_of_flat n hc'.1, b.eq_of_flat n hc'.2]
      | iface ty a t =>
        rw [t.eq_of_flat n h]
        have := a.eq_of_flat n hc
        injection this with e1; rw [e1]
      | agg a t => rw [t.eq_of_flat n h, a.eq_of_flat n hc]
      | tuple a t => rw [t.eq_of_flat n h, a.eq_of_flat n hc]
/-- A value of one cell stands for one of one cell. -/
theorem VR.cells {σ : Sg} {x y : Value} (h : VR σ x y) : VRs σ x.cells.toList y.cells.toList := by
  cases h with
  | agg a _ => exact a
  | sc v hs _ => cases x <;> first | exact .sc _ hs .nil | cases hs
  | ptr hs _ => exact .ptr hs .nil
  | sl hs _ => exact .sl hs .nil
  | slo hs h1 h2 _ => exact .slo hs h1 h2 .nil
  | sle hs h1 _ => exact .sle hs h1 .nil
  | map hs _ => exact .map hs .nil
  | func f a b _ => exact .func f a b .nil
  | yld h _ => exact .yld h .nil
  | iface ty a _ => exact .iface ty a .nil
  | tuple a _ => exact .tuple a .nil
theorem VR.one {σ : Sg} {x y : Value} (h : VR σ x y) : x.oneCell' = y.oneCell' := by
  cases h <;> rfl
theorem VRs.one {σ : Sg} : ∀ {us vs : List Value}, VRs σ us vs → us.all (·.oneCell') = true → ∀ v ∈ vs, v.oneCell' = true
  | [], vs, h, _ => by rw [h.inv_nil]; simp
  | x :: us, vs, h, ha => by
    obtain ⟨y, vs', rfl, h1, t⟩ := h.inv
    simp only [List.all_cons, Bool.and_eq_true] at ha
    intro v hv
    rcases List.mem_cons.1 hv with rfl | hv
    · rw [← h1.one]; exact ha.1
    · exact t.one ha.2 v hv

/-- A numbered block: a row's first n cells (k = 2: only read), a map's entries (and when each was born), a string or a map that is ranged over, the record of a range over a function. -/
inductive Bl where
  | cells (elem n k : Nat) (c : Tb Value)
  | map (clock : Nat) (bs : List Nat) (l : List (Value × Value))
  | iter (s : ByteArray) (pos : Nat)
  | miter (m : Option Nat) (since : Nat) (seen : List Nat) (last : Nat)
  | loop (st n : Nat) (e : Tb Value) (ps : List Nat) (asg body : Code) (pend : Option (Option Nat))
/-- A block that is looked at. -/
noncomputable def blS {β : Type} (B : Bl) (f : Bl → β) : β :=
  match B with
  | .cells el n k c => natS n (fun n => f (.cells el n k c))
  | B => f B
theorem blS_eq {β : Type} (B : Bl) (f : Bl → β) : blS B f = f B := by
  unfold blS
  split
  · rw [natS_eq]
  · rfl
abbrev Hp := Tb Bl
/-- Where a range over a function stands. -/
def lpSt : Nat → LoopState
  | 0 => .ready
  | 1 => .busy
  | 2 => .done
  | _ => .exhausted
/-- How a round was left. -/
def jumpC : Option Nat → Code
  | none => .ret
  | some id => .exit id

def BR (σ : Sg) (L : Loc) (w : World) : Bl → Prop
  | .cells elem n k c => ∃ (row : Array Value) (fz : Nat × Nat), w.heap[L.blk]? = some (.cells row elem fz) ∧ row.size = L.size ∧ L.base + n ≤ L.size ∧ (∀ i, (c.get i).isSome = true ↔ i < n) ∧
      (∀ i v, c.get i = some v → ∃ u, row[L.base + i]? = some u ∧ VR σ v u) ∧ (k ≠ 2 → fz.1 = fz.2 ∨ L.size ≤ fz.1)
  | .map clock bs l => ∃ es : Array MapEntry, w.heap[L.blk]? = some (.map es clock) ∧ VRs σ (l.map (·.1)) (es.toList.map (·.key)) ∧ VRs σ (l.map (·.2)) (es.toList.map (·.val)) ∧ es.toList.map (·.born) = bs
  | .iter s pos => L.base = 0 ∧ w.heap[L.blk]? = some (.stringIter s pos)
  | .miter m since seen last => L.base = 0 ∧ ∃ r, (∀ id, m = some id → ∃ L', σ id = some L' ∧ r = some L'.blk) ∧ (m = none → r = none) ∧ w.heap[L.blk]? = some (.mapIter r since ⟨seen⟩ last)
  | .loop st n e ps asg body pend => L.base = 0 ∧ ∃ r : Loop, w.heap[L.blk]? = some (.loop r) ∧ r.state = lpSt st ∧ r.tmps.size = n ∧ (∀ k v, e.get k = some v → ∃ u, r.tmps[k]? = some u ∧ VR σ v u) ∧ r.params.toList = ps ∧ r.assign = asg ∧ r.body = body ∧ r.pending = pend.map jumpC
theorem BR.lt {σ : Sg} {L : Loc} {w : World} {B : Bl} (h : BR σ L w B) : L.blk < w.heap.size := by
  cases B with
  | cells elem n k c => obtain ⟨row, fz, h, _⟩ := h; exact (Array.getElem?_eq_some_iff.1 h).1
  | map cl bs l => obtain ⟨es, h, _⟩ := h; exact (Array.getElem?_eq_some_iff.1 h).1
  | iter s p => exact (Array.getElem?_eq_some_iff.1 h.2).1
  | miter m a b c => obtain ⟨_, r, _, _, h⟩ := h; exact (Array.getElem?_eq_some_iff.1 h).1
  | loop st n e ps asg body pend => obtain ⟨_, r, h, _⟩ := h; exact (Array.getElem?_eq_some_iff.1 h).1
theorem BR.keep {σ σ' : Sg} {L : Loc} {w w' : World} {B : Bl} (h : BR σ L w B) (hs : σ.le σ') (hb : w'.heap[L.blk]? = w.heap[L.blk]?) : BR σ' L w' B := by
  cases B with
  | cells elem n k c =>
    obtain ⟨row, fz, h0, h1, h2, h3, h4, h5⟩ := h
    exact ⟨row, fz, hb.trans h0, h1, h2, h3, fun i v hv => let ⟨u, hu, hr⟩ := h4 i v hv; ⟨u, hu, hr.mono hs⟩, h5⟩
  | map cl bs l =>
    obtain ⟨es, h0, h1, h2, h3⟩ := h
    exact ⟨es, hb.trans h0, h1.mono hs, h2.mono hs, h3⟩
  | iter s p => exact ⟨h.1, hb.trans h.2⟩
  | miter m a b c =>
    obtain ⟨h0, r, h1, h2, h3⟩ := h
    exact ⟨h0, r, fun id hi => let ⟨L', h4, h5⟩ := h1 id hi; ⟨L', hs _ _ h4, h5⟩, h2, hb.trans h3⟩
  | loop st n e ps asg body pend =>
    obtain ⟨h0, r, h1, h2, h3, h4, h5⟩ := h
    exact ⟨h0, r, hb.trans h1, h2, h3, fun k v hk => let ⟨u, hu, hr⟩ := h4 k v hk; ⟨u, hu, hr.mono hs⟩, h5⟩

abbrev Hf := Nat → Option Bl
/-- A block that is only read. -/
def Bl.ro : Bl → Prop
  | .cells _ _ k _ => k = 2
  | _ => False
/-- Whoever lives at a row is only read. -/
def Quiet (h : Hf) (σ : Sg) (r : Nat) : Prop := ∀ id L B, h id = some B → σ id = some L → L.blk = r → B.ro
/-- The memory of the machine stands for the model's. nx: numbers from here on are free; G: this many package-level variables have their own numbers. -/
structure MR (G : Nat) (σ : Sg) (h : Hf) (nx : Nat) (w : World) : Prop where
  blk : ∀ id B, h id = some B → ∃ L, σ id = some L ∧ BR σ L w B
  sep : ∀ id id' L L', (h id).isSome = true → (h id').isSome = true → σ id = some L → σ id' = some L' → L.blk = L'.blk → id = id'
  free : ∀ id, nx ≤ id → σ id = none
  glob : ∀ g, g < G → ∃ n, σ g = some ⟨g, 0, n⟩
  gle : G ≤ nx
/-- A step of the machine stands for a step of the model. -/
structure Tr (G : Nat) (σ : Sg) (h : Hf) (nx : Nat) (w : World) (σ' : Sg) (h' : Hf) (nx' : Nat) (w' : World) : Prop where
  le : nx ≤ nx'
  ext : σ.le σ'
  old : ∀ id, id < nx → σ' id = σ id
  mr : MR G σ' h' nx' w'
  os : w'.os = w.os
  tape : w'.tape = w.tape
  output : w'.output = w.output
  size : w.heap.size ≤ w'.heap.size
  fr : ∀ r, r < w.heap.size → (∀ id L, (h id).isSome = true → σ id = some L → L.blk ≠ r) → w'.heap[r]? = w.heap[r]?
  src : ∀ id L', (h' id).isSome = true → σ' id = some L' → w.heap.size ≤ L'.blk ∨ ∃ id0 L0, (h id0).isSome = true ∧ σ id0 = some L0 ∧ L0.blk = L'.blk
  dom : ∀ id, id < nx → h id = none → h' id = none
  qt : ∀ r, r < w.heap.size → Quiet h σ r → w'.heap[r]? = w.heap[r]? ∧ Quiet h' σ' r
theorem Tr.refl {G : Nat} {σ : Sg} {h : Hf} {nx : Nat} {w : World} (m : MR G σ h nx w) : Tr G σ h nx w σ h nx w :=
  ⟨Nat.le_refl _, Sg.le.refl σ, fun _ _ => rfl, m, rfl, rfl, rfl, Nat.le_refl _, fun _ _ _ => rfl, fun id L' hi hs => .inr ⟨id, L', hi, hs, rfl⟩, fun _ _ h => h, fun _ _ hq => ⟨rfl, hq⟩⟩
theorem Tr.trans {G : Nat} {σ σ' σ'' : Sg} {h h' h'' : Hf} {nx nx' nx'' : Nat} {w w' w'' : World} (a : Tr G σ h nx w σ' h' nx' w') (b : Tr G σ' h' nx' w' σ'' h'' nx'' w'') : Tr G σ h nx w σ'' h'' nx'' w'' where
  le := Nat.le_trans a.le b.le
  ext := a.ext.trans b.ext
  old id hi := (b.old id (Nat.lt_of_lt_of_le hi a.le)).trans (a.old id hi)
  mr := b.mr
  os := b.os.trans a.os
  tape := b.tape.trans a.tape
  output := b.output.trans a.output
  size := Nat.le_trans a.size b.size
  fr r hr hn := by
    refine (b.fr r (Nat.lt_of_lt_of_le hr a.size) fun id L hi hs e => ?_).trans (a.fr r hr hn)
    rcases a.src id L hi hs with h1 | ⟨id0, L0, h1, h2, h3⟩
    · omega
    · exact hn id0 L0 h1 h2 (h3.trans e)
  src id L hi hs := by
    rcases b.src id L hi hs with h1 | ⟨id0, L0, h1, h2, h3⟩
    · exact .inl (Nat.le_trans a.size h1)
    · rcases a.src id0 L0 h1 h2 with h4 | ⟨id1, L1, h4, h5, h6⟩
      · exact .inl (by omega)
      · exact .inr ⟨id1, L1, h4, h5, h6.trans h3⟩
  dom id hi hn := b.dom id (Nat.lt_of_lt_of_le hi a.le) (a.dom id hi hn)
  qt r hr hq := by
    obtain ⟨h1, h2⟩ := a.qt r hr hq
    obtain ⟨h3, h4⟩ := b.qt r (Nat.lt_of_lt_of_le hr a.size) h2
    exact ⟨h3.trans h1, h4⟩
theorem Tr.drew {G : Nat} {σ σ' : Sg} {h h' : Hf} {nx nx' : Nat} {w w' : World} (a : Tr G σ h nx w.drew σ' h' nx' w') : Tr G σ h nx w σ' h' nx' w' :=
  ⟨a.le, a.ext, a.old, a.mr, a.os, a.tape, a.output, a.size, a.fr, a.src, a.dom, a.qt⟩
theorem BR.drew {σ : Sg} {L : Loc} {w : World} {B : Bl} (h : BR σ L w B) : BR σ L w.drew B := h.keep (Sg.le.refl σ) rfl
theorem MR.drew {G : Nat} {σ : Sg} {h : Hf} {nx : Nat} {w : World} (m : MR G σ h nx w) : MR G σ h nx w.drew :=
  ⟨fun id B hb => let ⟨L, h1, h2⟩ := m.blk id B hb; ⟨L, h1, h2.drew⟩, m.sep, m.free, m.glob, m.gle⟩
end Go.Proofs.YthdlljlcffokbaaDoor
namespace Go.Proofs.YthdlljlcffokbaaDoor
open Go.RowKit

/-- n cells from off on. -/
noncomputable def ldN (c : Tb Value) (n : Nat) : Nat → Option (List Value) :=
  @Nat.rec (fun _ => Nat → Option (List Value)) (fun _ => some []) (fun _ ih off => oo (c.get off) none (fun v => oo (ih (Nat.succ off)) none (fun l => some (v :: l)))) n
noncomputable def stN (vs : List Value) : Tb Value → Nat → Tb Value :=
  @List.rec Value (fun _ => Tb Value → Nat → Tb Value) (fun c _ => c) (fun v _ ih c off => ih (c.put off v) (Nat.succ off)) vs

noncomputable def stS {β : Type} (vs : List Value) : Tb Value → Nat → (Tb Value → β) → β :=
  @List.rec Value (fun _ => Tb Value → Nat → (Tb Value → β) → β) (fun c _ f => f c) (fun v _ ih c off f => putS c off v (fun c => ih c (Nat.succ off) f)) vs
theorem stS_eq {β : Type} : ∀ (vs : List Value) (c : Tb Value) (off : Nat) (f : Tb Value → β), stS vs c off f = f (stN vs c off)
  | [], _, _, _ => rfl
  | v :: vs, c, off, f => by
    show putS c off v (fun c => stS vs c (Nat.succ off) f) = _
    rw [putS_eq, stS_eq vs]
    rfl

inductive OR where
  | bad
  | ok (v : Value) (h : Hp) (nx : Nat)
inductive Out where
  | bad
  | nrm (e : Tb Value) (h : Hp) (nx : Nat)
  | ext (id : Nat) (e : Tb Value) (h : Hp) (nx : Nat)
  | ret (e : Tb Value) (h : Hp) (nx : Nat)

noncomputable def flat (v : Value) : Bool := flatN 100000 [v]
noncomputable def evR (x : Operand) : Nat → Tb Value → Option Value :=
  @Operand.rec (fun _ => Nat → Tb Value → Option Value) (fun t _ e => e.get t) (fun v _ _ => bo (flat v) (some v) none) (fun g G _ => bo (Nat.blt g G) (some (.pointer (some ⟨g, 0, none⟩))) none) (fun f _ _ => some (.func (.func f) ⟨[]⟩ ⟨[]⟩)) x
noncomputable def evO (G : Nat) (e : Tb Value) (x : Operand) : Option Value := evR x G e
noncomputable def evL (G : Nat) (e : Tb Value) (l : List Operand) : Option (List Value) :=
  @List.rec Operand (fun _ => Option (List Value)) (some []) (fun x _ ih => oo (evO G e x) none (fun v => oo ih none (fun vs => some (v :: vs)))) l
noncomputable def evP (G : Nat) (e : Tb Value) (l : List (Nat × Operand)) : Option (List (Nat × Value)) :=
  @List.rec (Nat × Operand) (fun _ => Option (List (Nat × Value))) (some []) (fun x _ ih => oo (evO G e x.2) none (fun v => oo ih none (fun vs => some ((x.1, v) :: vs)))) l

/-- The cells of a type's value: none for one cell. -/
def rowSz (P : Program) (t : TypeId) : Option (Option Nat) :=
  match P.underlying t with
  | some (.struct _) | some (.array _ _) => (P.info? t).map fun i => some i.size
  | some _ => some none
  | none => none
def sizeTy (P : Program) (t : TypeId) : Option Nat := (P.info? t).map (·.size)
noncomputable def zeroTy (P : Program) (t : TypeId) : Option Value :=
  match P.info? t with
  | some i => match i.zero with
    | some z => bo (flat z) (some z) none
    | none => none
  | none => none

noncomputable def mLoad (P : Program) (h : Hp) (nx : Nat) (t : TypeId) : Option Value → OR
  | some (.pointer (some ⟨id, off, none⟩)) => match h.get id with
    | some (.cells _ _ _ c) => match rowSz P t with
      | some none => match c.get off with
        | some v => .ok v h nx
        | none => .bad
      | some (some n) => match ldN c n off with
        | some l => .ok (.agg ⟨l⟩) h nx
        | none => .bad
      | none => .bad
    | _ => .bad
  | _ => .bad
/-- Cells are written into a block. -/
noncomputable def wrCells (h : Hp) (id off : Nat) (vs : List Value) : Option Hp :=
  match h.get id with
  | some (.cells el n k c) => bo (Nat.ble (off + vs.length) n && (Nat.beq k 0 && vs.all (·.oneCell'))) (stS vs c off (fun c => putS h id (.cells el n k c) some)) none
  | _ => none
noncomputable def mStore (P : Program) (h : Hp) (nx : Nat) (t : TypeId) : Option Value → Option Value → OR
  | some (.pointer (some ⟨id, off, none⟩)), some v => match sizeTy P t with
    | some n => bo (Nat.beq v.cells.toList.length n) (match wrCells h id off v.cells.toList with | some h' => .ok undef h' nx | none => .bad) .bad
    | none => .bad
  | _, _ => .bad
/-- A new block. -/
noncomputable def newB (h : Hp) (nx : Nat) (B : Bl) (v : Value) : OR := blS B (fun B => putS h nx B (fun h' => natS (nx + 1) (fun n' => .ok v h' n')))
noncomputable def mAlloc (P : Program) (h : Hp) (nx : Nat) (el : TypeId) : OR :=
  match zeroTy P el with
  | some z => newB h nx (.cells el z.cells.toList.length 0 (Tb.of z.cells.toList)) (.pointer (some ⟨nx, 0, none⟩))
  | none => .bad
noncomputable def mBox (h : Hp) (nx : Nat) (el : TypeId) : Option Value → OR
  | some v => newB h nx (.cells el v.cells.toList.length 0 (Tb.of v.cells.toList)) (.pointer (some ⟨nx, 0, none⟩))
  | none => .bad

/-- Where the parts of a struct or an array lie. -/
def placesL (P : Program) : List Field → Option (List (Nat × Nat))
  | [] => some []
  | f :: r => match P.info? f.type, placesL P r with
    | some i, some l => some ((f.offset, i.size) :: l)
    | _, _ => none
noncomputable def fillL (place : Nat → Option (Nat × Nat)) : List Value → List (Nat × Value) → Option (List Value)
  | cs, [] => some cs
  | cs, (i, v) :: r => match place i with
    | none => none
    | some (off, size) => bo (Nat.beq v.cells.toList.length size && Nat.ble (off + v.cells.toList.length) cs.length) (fillL place (put cs off v.cells.toList) r) none
noncomputable def mBuild (P : Program) (h : Hp) (nx : Nat) (t : TypeId) : Option (List (Nat × Value)) → OR
  | some ps => match zeroTy P t, P.underlying t with
    | some z, some (.struct fs) => match placesL P fs.toList with
      | some pl => match fillL (fun i => pl[i]?) z.cells.toList ps with
        | some cs => .ok (.agg ⟨cs⟩) h nx
        | none => .bad
      | none => .bad
    | some z, some (.array _ el) => match sizeTy P el with
      | some s => match fillL (fun i => some (i * s, s)) z.cells.toList ps with
        | some cs => .ok (.agg ⟨cs⟩) h nx
        | none => .bad
      | none => .bad
    | _, _ => .bad
  | none => .bad
/-- The cells of n elements at zero. -/
noncomputable def zerosN (z : List Value) (n : Nat) : List Value := Nat.rec (motive := fun _ => List Value) [] (fun _ ih => z ++ ih) n
noncomputable def mBuildSlice (P : Program) (h : Hp) (nx : Nat) (t : TypeId) (len : Nat) : Option (List (Nat × Value)) → OR
  | some ps => match sliceElem P t with
    | some (el, s) => match zeroTy P el with
      | some z => bo (Nat.beq z.cells.toList.length s && (Nat.blt 0 s && Nat.ble (len * s) 16777216)) (match fillL (fun i => some (i * s, s)) (zerosN z.cells.toList len) ps with
        | some cs => newB h nx (.cells el cs.length 0 (Tb.of cs)) (.slice (some ⟨nx, 0, none⟩) len len)
        | none => .bad) .bad
      | none => .bad
    | none => .bad
  | none => .bad
noncomputable def mMakeSlice (P : Program) (h : Hp) (nx : Nat) (t : TypeId) : Option Value → Option Value → OR
  | some (.int .i64 (.ofNat n)), some (.int .i64 (.ofNat c)) => match sliceElem P t with
    | some (el, s) => match zeroTy P el, P.info? el with
      | some z, some i => bo (Nat.beq z.cells.toList.length s && (Nat.blt 0 s && (Nat.ble n c && (Nat.ble c 16777216 && Nat.ble i.bytes 16777216))))
        (newB h nx (.cells el (c * s) 0 (match z.cells.toList with | [v] => Tb.repN v c c | l => Tb.of (zerosN l c))) (.slice (some ⟨nx, 0, none⟩) n c)) .bad
      | _, _ => .bad
    | none => .bad
  | _, _ => .bad

def fieldPl (P : Program) (s f : Nat) : Option (Nat × Option Nat) := match P.underlying s with
  | some (.struct fs) => match fs[f]? with
    | some fd => (rowSz P fd.type).map fun r => (fd.offset, r)
    | none => none
  | _ => none
/-- A part of a value of many cells. -/
def partL (cs : List Value) (off : Nat) : Option Nat → Option Value
  | none => cs[off]?
  | some n => some (.agg ⟨(cs.drop off).take n⟩)
noncomputable def mField (P : Program) (h : Hp) (nx : Nat) (s f : Nat) : Option Value → OR
  | some (.agg ⟨cs⟩) => match fieldPl P s f with
    | some (off, r) => match partL cs off r with
      | some v => .ok v h nx
      | none => .bad
    | none => .bad
  | _ => .bad
noncomputable def mFieldAddr (P : Program) (h : Hp) (nx : Nat) (s f : Nat) : Option Value → OR
  | some (.pointer (some ⟨id, off, none⟩)) => match fieldOff P s f with
    | some k => .ok (.pointer (some ⟨id, off + k, none⟩)) h nx
    | none => .bad
  | _ => .bad
noncomputable def mIndexAddr (P : Program) (h : Hp) (nx : Nat) (t : TypeId) : Option Value → Option Value → OR
  | some (.slice (some ⟨id, off, _⟩) len _), some (.int _ (.ofNat m)) => match sliceElem P t with
    | some (_, s) => bo (Nat.blt m len) (.ok (.pointer (some ⟨id, off + m * s, none⟩)) h nx) .bad
    | none => .bad
  | some (.pointer (some ⟨id, off, none⟩)), some (.int _ (.ofNat m)) => match arrElem P t with
    | some (len, _, s) => bo (Nat.blt m len) (.ok (.pointer (some ⟨id, off + m * s, none⟩)) h nx) .bad
    | none => .bad
  | _, _ => .bad
noncomputable def mIndex (P : Program) (h : Hp) (nx : Nat) (t : TypeId) : Option Value → Option Value → OR
  | some (.agg ⟨cs⟩), some (.int _ (.ofNat m)) => match arrElem P t with
    | some (len, el, s) => match rowSz P el with
      | some r => bo (Nat.blt m len) (match partL cs (m * s) r with | some v => .ok v h nx | none => .bad) .bad
      | none => .bad
    | none => .bad
  | some (.string s), some (.int _ (.ofNat m)) => match P.underlying t with
    | some .string => match s.data.toList[m]? with
      | some b => .ok (.int .u8 (.ofNat b.toNat)) h nx
      | none => .bad
    | _ => .bad
  | _, _ => .bad
/-- A bound of a slice. -/
def bndO (d : Nat) : Option (Option Value) → Option Nat
  | none => some d
  | some (some (.int _ (.ofNat m))) => some m
  | _ => none
/-- A part of an open slice that goes beyond its length, but not beyond what is known. -/
noncomputable def mSlKnown (h : Hp) (nx id off z s l u : Nat) : OR :=
  match h.get id with
  | some (.cells _ m _ _) => bo (Nat.blt l u && (Nat.ble (off + u * z) m && (Nat.blt 0 z && Nat.beq s z))) (.ok (.slice (some ⟨id, off + l * z, some z⟩) (u - l) 0) h nx) .bad
  | _ => .bad
noncomputable def mSlice (P : Program) (h : Hp) (nx : Nat) (t : TypeId) (x : Option Value) (lo hi mx : Option (Option Value)) : OR :=
  match x with
  | some (.string s) => match P.underlying t, mx, bndO 0 lo, bndO s.data.toList.length hi with
    | some .string, none, some l, some u => bo (Nat.ble l u && Nat.ble u s.data.toList.length) (.ok (.string ⟨⟨(s.data.toList.drop l).take (u - l)⟩⟩) h nx) .bad
    | _, _, _, _ => .bad
  | some (.slice (some ⟨id, off, none⟩) len cap) => match sliceElem P t, bndO 0 lo, bndO len hi, bndO cap mx with
    | some (_, s), some l, some u, some m => bo (Nat.ble l u && (Nat.ble u m && (Nat.ble m cap && (hi.isSome || mx.isNone)))) (.ok (.slice (some ⟨id, bo (Nat.beq m l) off (off + l * s), none⟩) (u - l) (m - l)) h nx) .bad
    | _, _, _, _ => .bad
  | some (.slice (some ⟨id, off, some z⟩) len 0) => match sliceElem P t, bndO 0 lo, bndO len hi, mx with
    | some (_, s), some l, some u, none => bo (Nat.ble l u && (Nat.ble u len && Nat.beq s z)) (bo (Nat.beq l 0 || Nat.blt l len) (.ok (.slice (some ⟨id, off + l * z, some z⟩) (u - l) 0) h nx) (.ok (.slice (some ⟨id, off + l * z, some z⟩) 0 1) h nx)) (mSlKnown h nx id off z s l u)
    | some (_, s), some l, some u, some mo => match bndO 0 (some mo) with
      | some m => bo (Nat.ble l u && (Nat.ble u m && (Nat.ble m len && hi.isSome))) (.ok (.slice (some ⟨id, bo (Nat.beq m l) off (off + l * s), none⟩) (u - l) (m - l)) h nx) .bad
      | none => .bad
    | _, _, _, _ => .bad
  | some (.slice (some ⟨id, off, some z⟩) 0 1) => match sliceElem P t, bndO 0 lo, bndO 0 hi, bndO 0 mx with
    | some _, some 0, some 0, some 0 => bo (hi.isSome || mx.isNone) (.ok (.slice (some ⟨id, off, some z⟩) 0 1) h nx) .bad
    | _, _, _, _ => .bad
  | some (.slice none 0 0) => match sliceElem P t, bndO 0 lo, bndO 0 hi, bndO 0 mx with
    | some _, some 0, some 0, some 0 => bo (hi.isSome || mx.isNone) (.ok (.slice none 0 0) h nx) .bad
    | _, _, _, _ => .bad
  | some (.pointer (some ⟨id, off, none⟩)) => match arrElem P t, bndO 0 lo, mx with
    | some (n, _, s), some l, none => match bndO n hi with
      | some u => bo (Nat.ble l u && Nat.ble u n) (.ok (.slice (some ⟨id, bo (Nat.beq n l) off (off + l * s), none⟩) (u - l) (n - l)) h nx) .bad
      | none => .bad
    | _, _, _ => .bad
  | _ => .bad

def ikn : IntKind → Nat
  | .i8 => 0 | .i16 => 1 | .i32 => 2 | .i64 => 3 | .u8 => 4 | .u16 => 5 | .u32 => 6 | .u64 => 7
def ikLim : IntKind → Nat
  | .i8 => 128 | .i16 => 32768 | .i32 => 2147483648 | .i64 => 9223372036854775808 | .u8 => 256 | .u16 => 65536 | .u32 => 4294967296 | .u64 => 18446744073709551616
noncomputable def wr (k : IntKind) : Int → Int
  | .ofNat m => bo (Nat.blt m (ikLim k)) (.ofNat m) (bo k.signed (k.wrap (.ofNat m)) (.ofNat (Nat.mod m (ikLim k))))
  | .negSucc m => bo (k.signed && Nat.blt m (ikLim k)) (.negSucc m) (k.wrap (.negSucc m))
def iLt : Int → Int → Bool
  | .ofNat a, .ofNat b => Nat.blt a b
  | .ofNat _, .negSucc _ => false
  | .negSucc _, .ofNat _ => true
  | .negSucc a, .negSucc b => Nat.blt b a
def iEq : Int → Int → Bool
  | .ofNat a, .ofNat b => Nat.beq a b
  | .negSucc a, .negSucc b => Nat.beq a b
  | _, _ => false
noncomputable def iAdd (k : IntKind) (a b : Int) : Option Value := some (.int k (wr k (Int.add a b)))
noncomputable def iSub (k : IntKind) (a b : Int) : Option Value := some (.int k (wr k (Int.sub a b)))
noncomputable def iMul (k : IntKind) (a b : Int) : Option Value := some (.int k (wr k (Int.mul a b)))
def iEql (_ : IntKind) (a b : Int) : Option Value := some (.bool (iEq a b))
def iNeq (_ : IntKind) (a b : Int) : Option Value := some (.bool (!iEq a b))
def iLss (_ : IntKind) (a b : Int) : Option Value := some (.bool (iLt a b))
def iLeq (_ : IntKind) (a b : Int) : Option Value := some (.bool (!iLt b a))
def iGtr (_ : IntKind) (a b : Int) : Option Value := some (.bool (iLt b a))
def iGeq (_ : IntKind) (a b : Int) : Option Value := some (.bool (!iLt a b))
noncomputable def iAnd (k : IntKind) : Int → Int → Option Value
  | .ofNat a, .ofNat b => bo (Nat.blt a (ikLim k) && Nat.blt b (ikLim k)) (some (.int k (.ofNat (Nat.land a b)))) none
  | _, _ => none
noncomputable def iOr (k : IntKind) : Int → Int → Option Value
  | .ofNat a, .ofNat b => bo (Nat.blt a (ikLim k) && Nat.blt b (ikLim k)) (some (.int k (.ofNat (Nat.lor a b)))) none
  | _, _ => none
noncomputable def iXor (k : IntKind) : Int → Int → Option Value
  | .ofNat a, .ofNat b => bo (Nat.blt a (ikLim k) && Nat.blt b (ikLim k)) (some (.int k (.ofNat (Nat.xor a b)))) none
  | _, _ => none
noncomputable def iQuo (k : IntKind) : Int → Int → Option Value
  | .ofNat a, .ofNat b => bo (Nat.blt a (ikLim k) && Nat.blt 0 b) (some (.int k (.ofNat (Nat.div a b)))) none
  | _, _ => none
noncomputable def iRem (k : IntKind) : Int → Int → Option Value
  | .ofNat a, .ofNat b => bo (Nat.blt 0 b) (some (.int k (.ofNat (Nat.mod a b)))) none
  | _, _ => none
def ikBits : IntKind → Nat
  | .i8 => 8 | .i16 => 16 | .i32 => 32 | .i64 => 64 | .u8 => 8 | .u16 => 16 | .u32 => 32 | .u64 => 64
/-- A shift by less than the bits. -/
noncomputable def shOp (op : BinOp) (k : IntKind) : Int → Int → Option Value :=
  match op with
  | .shl => fun a b => match a, b with
    | .ofNat a, .ofNat b => bo (Nat.ble b (ikBits k)) (some (.int k (wr k (.ofNat (Nat.mul a (Nat.pow 2 b)))))) none
    | _, _ => none
  | .shr => fun a b => match a, b with
    | .ofNat a, .ofNat b => bo (Nat.ble b (ikBits k)) (some (.int k (.ofNat (Nat.div a (Nat.pow 2 b))))) none
    | _, _ => none
  | _ => fun _ _ => none
noncomputable def intOp (op : BinOp) : IntKind → Int → Int → Option Value :=
  match op with
  | .add => iAdd
  | .sub => iSub
  | .mul => iMul
  | .eql => iEql
  | .neq => iNeq
  | .lss => iLss
  | .leq => iLeq
  | .gtr => iGtr
  | .geq => iGeq
  | .and => iAnd
  | .or => iOr
  | .xor => iXor
  | .quo => iQuo
  | .rem => iRem
  | _ => fun _ _ _ => none
noncomputable def byEq : List UInt8 → List UInt8 → Bool
  | [], [] => true
  | a :: x, b :: y => bo (Nat.beq a.toNat b.toNat) (byEq x y) false
  | _, _ => false
noncomputable def byLt : List UInt8 → List UInt8 → Bool
  | _, [] => false
  | [], _ :: _ => true
  | a :: x, b :: y => bo (Nat.blt a.toNat b.toNat) true (bo (Nat.beq a.toNat b.toNat) (byLt x y) false)
noncomputable def strOp (op : BinOp) (a b : List UInt8) : Option Value :=
  match op with
  | .add => bo (Nat.ble (a.length + b.length) 4611686018427387904) (some (.string ⟨⟨a ++ b⟩⟩)) none
  | .eql => some (.bool (byEq a b))
  | .neq => some (.bool (!byEq a b))
  | .lss => some (.bool (byLt a b))
  | .leq => some (.bool (!byLt b a))
  | .gtr => some (.bool (byLt b a))
  | .geq => some (.bool (!byLt a b))
  | _ => none
/-- The equality of two values of which one is a nil, or of two places. -/
noncomputable def eqNil (P : Program) (t : TypeId) : Value → Value → Option Bool
  | .pointer a, .pointer none => (ptrElem P t).map fun _ => a.isNone
  | .pointer none, .pointer a => (ptrElem P t).map fun _ => a.isNone
  | .pointer (some ⟨a, i, none⟩), .pointer (some ⟨b, j, none⟩) => match ptrElem P t with
    | some el => match sizeTy P el with
      | some (_ + 1) => bo (Nat.beq a b) (some (Nat.beq i j)) none
      | _ => none
    | none => none
  | .slice a _ _, .slice none _ _ => (sliceElem P t).map fun _ => a.isNone
  | .map a, .map none => match P.underlying t with
    | some (.map _ _) => some a.isNone
    | _ => none
  | .func _ _ _, .nilFunc => match P.underlying t with
    | some (.func _ _ _) => some false
    | _ => none
  | .nilFunc, .nilFunc => match P.underlying t with
    | some (.func _ _ _) => some true
    | _ => none
  | _, _ => none
/-- What a computation yields that looks at no memory. -/
noncomputable def pureRun {α : Type} (P : Program) (s : Sem α) : Option α :=
  Sem.rec (motive := fun _ => Option α) (fun a => some a) (fun _ _ _ _ => none) (fun _ _ _ _ _ => none) (fun _ _ _ => none) (fun _ _ _ => none) (fun _ _ _ _ => none) (fun _ _ _ => none) (fun _ _ _ => none) (fun _ _ _ _ => none) (fun _ _ _ => none) (fun _ _ _ => none) (fun _ ih => ih P) (fun _ _ ih => ih) (fun _ => none) s
noncomputable def allFlat (G : Nat) (e : Tb Value) (l : List Operand) : Bool :=
  List.rec (motive := fun _ => Bool) true (fun x _ ih => match evO G e x with | some v => bo (flat v) ih false | none => false) l
/-- An operation on values that name no place: the model's own. -/
noncomputable def mFlat (P : Program) (G : Nat) (e : Tb Value) (h : Hp) (nx : Nat) (o : Oper) : OR :=
  bo (allFlat G e o.op.operands.toList) (match pureRun P (execOp (fun x => (evO G e x).getD undef) o) with
    | some (.value v) => bo (flat v) (.ok v h nx) .bad
    | _ => .bad) .bad
abbrev BinF := Value → Program → Nat → Tb Value → Hp → Nat → Oper → BinOp → TypeId → OR
noncomputable def binInt (k : IntKind) (a : Int) : BinF := fun b P G e h nx o op _ =>
  match b with
  | .int k' b => bo (Nat.beq (ikn k) (ikn k')) (oo (intOp op k a b) (oo (shOp op k a b) (mFlat P G e h nx o) (fun v => .ok v h nx)) (fun v => .ok v h nx)) (oo (shOp op k a b) (mFlat P G e h nx o) (fun v => .ok v h nx))
  | _ => mFlat P G e h nx o
noncomputable def binStr (a : ByteArray) : BinF := fun b _ _ _ h nx _ op _ =>
  match b with
  | .string b => oo (strOp op a.data.toList b.data.toList) .bad (fun v => .ok v h nx)
  | _ => .bad
noncomputable def binAny (a : Value) : BinF := fun b P G e h nx o op t =>
  match op with
  | .eql => oo (eqNil P t a b) (mFlat P G e h nx o) (fun r => .ok (.bool r) h nx)
  | .neq => oo (eqNil P t a b) (mFlat P G e h nx o) (fun r => .ok (.bool (!r)) h nx)
  | _ => mFlat P G e h nx o
noncomputable def binV (a : Value) : BinF :=
  match a with
  | .int k n => binInt k n
  | .string s => binStr s
  | a => binAny a
noncomputable def mBin (P : Program) (G : Nat) (e : Tb Value) (h : Hp) (nx : Nat) (o : Oper) (op : BinOp) (t : TypeId) (a b : Option Value) : OR :=
  oo a .bad (fun a => oo b .bad (fun b => binV a b P G e h nx o op t))
/-- Bytes of cells. -/
def byOf : List Value → Option (List UInt8)
  | [] => some []
  | .int .u8 (.ofNat n) :: r => match byOf r with
    | some l => some (UInt8.ofNat n :: l)
    | none => none
  | _ :: _ => none
noncomputable def mConv (P : Program) (G : Nat) (e : Tb Value) (h : Hp) (nx : Nat) (o : Oper) (s d : TypeId) : Option Value → OR
  | some (.int _ n) => match P.underlying d with
    | some (.int k') => match P.underlying s with
      | some _ => .ok (.int k' (wr k' n)) h nx
      | none => .bad
    | _ => mFlat P G e h nx o
  | some (.string b) => match P.underlying s, P.underlying d with
    | some .string, some (.slice el) => match P.underlying el with
      | some (.int .u8) => newB h nx (.cells el b.data.toList.length 0 (Tb.of (b.data.toList.map fun x => .int .u8 (.ofNat x.toNat)))) (.slice (some ⟨nx, 0, some 1⟩) b.data.toList.length 0)
      | _ => .bad
    | _, _ => mFlat P G e h nx o
  | some (.slice none _ _) => match sliceElem P s, P.underlying d with
    | some (el, _), some .string => match P.underlying el with
      | some (.int .u8) => .ok (.string ⟨⟨[]⟩⟩) h nx
      | _ => .bad
    | _, _ => .bad
  | some (.slice (some ⟨id, off, sp⟩) len cap) => match Nat.beq s d with
   | true => match sliceElem P s, h.get id with
    | some (el, _), some (.cells _ _ k _) => match P.underlying el with
      | some (.int .u8) => bo (Nat.beq k 0) (.ok (.slice (some ⟨id, off, sp⟩) len cap) h nx) .bad
      | _ => .bad
    | _, _ => .bad
   | false => match sliceElem P s, P.underlying d, h.get id with
    | some (el, _), some .string, some (.cells _ _ _ c) => match P.underlying el, ldN c len off with
      | some (.int .u8), some l => match byOf l with
        | some bs => .ok (.string ⟨⟨bs⟩⟩) h nx
        | none => .bad
      | _, _ => .bad
    | _, _, _ => .bad
  | _ => mFlat P G e h nx o
noncomputable def mLen (P : Program) (h : Hp) (nx : Nat) (t : TypeId) : Option Value → OR
  | some (.slice _ n _) => match sliceElem P t with
    | some _ => .ok (.int .i64 (.ofNat n)) h nx
    | none => .bad
  | some (.string s) => match P.underlying t with
    | some .string => .ok (.int .i64 (.ofNat s.data.toList.length)) h nx
    | _ => .bad
  | some (.map none) => match P.underlying t with
    | some (.map _ _) => .ok (.int .i64 (.ofNat 0)) h nx
    | _ => .bad
  | some (.map (some id)) => match P.underlying t, h.get id with
    | some (.map _ _), some (.map _ _ l) => .ok (.int .i64 (.ofNat l.length)) h nx
    | _, _ => .bad
  | some _ => match P.underlying t with
    | some (.array n _) => .ok (.int .i64 (.ofNat n)) h nx
    | _ => .bad
  | none => .bad
/-- The cells of n elements of s cells that are appended or copied. -/
noncomputable def srcCells (h : Hp) (s n : Nat) : Value → Option (List Value)
  | .slice none _ _ => bo (Nat.beq n 0) (some []) none
  | .slice (some ⟨id, off, _⟩) l _ => bo (Nat.ble n l) (match h.get id with
    | some (.cells _ _ _ c) => ldN c (n * s) off
    | _ => bo (Nat.beq n 0) (some []) none) none
  | .string b => bo (Nat.beq s 1) (some ((b.data.toList.take n).map fun x => .int .u8 (.ofNat x.toNat))) none
  | _ => none
def lenV : Value → Option Nat
  | .slice _ n _ => some n
  | .string s => some s.data.toList.length
  | _ => none
noncomputable def mCopy (P : Program) (h : Hp) (nx : Nat) (t : TypeId) (d x : Option Value) : OR :=
  match d, x with
  | some (.slice a dl _), some x => match sliceElem P t, lenV x with
    | some (_, s), some n0 => match srcCells h s (bo (Nat.ble n0 dl) n0 dl) x with
      | some vs => match a with
        | some ⟨id, off, _⟩ => bo (vs.isEmpty) (.ok (.int .i64 (.ofNat (bo (Nat.ble n0 dl) n0 dl))) h nx) (match wrCells h id off vs with
            | some h' => .ok (.int .i64 (.ofNat (bo (Nat.ble n0 dl) n0 dl))) h' nx
            | none => .bad)
        | none => bo (vs.isEmpty) (.ok (.int .i64 (.ofNat (bo (Nat.ble n0 dl) n0 dl))) h nx) .bad
      | none => .bad
    | _, _ => .bad
  | _, _ => .bad
noncomputable def mClear (P : Program) (h : Hp) (nx : Nat) (t : TypeId) (x : Option Value) : OR :=
  match x with
  | some (.slice (some ⟨id, off, _⟩) n _) => match sliceElem P t with
    | some (el, _) => match zeroTy P el with
      | some z => bo (Nat.blt 0 n && Nat.blt 0 z.cells.toList.length) (match wrCells h id off (zerosN z.cells.toList n) with
        | some h' => .ok (.tuple ⟨[]⟩) h' nx
        | none => .bad) .bad
      | none => .bad
    | none => .bad
  | _ => .bad
/-- A new row of an append: old and new cells, and room that is left open. -/
noncomputable def mNewRow (P : Program) (h : Hp) (nx : Nat) (el s n : Nat) (cs : List Value) : OR :=
  match zeroTy P el with
  | some z => bo (Nat.beq z.cells.toList.length s) (newB h nx (.cells el cs.length 0 (Tb.of cs)) (.slice (some ⟨nx, 0, some s⟩) n 0)) .bad
  | none => .bad
/-- Elements are appended: to nothing, to a slice whose capacity is known, to an open one. -/
noncomputable def appNil (P : Program) (h : Hp) (nx : Nat) (el s n sl sc : Nat) (news : List Value) : OR :=
  bo (Nat.beq sl 0 && Nat.beq sc 0) (bo (Nat.beq n 0) (.ok (.slice none 0 0) h nx) (mNewRow P h nx el s n news)) .bad
noncomputable def appExact (P : Program) (h : Hp) (nx : Nat) (el s n sl sc id off : Nat) (news : List Value) : OR :=
  bo (Nat.ble (sl + n) sc)
    (match wrCells h id (off + sl * s) news with
    | some h' => .ok (.slice (some ⟨id, off, none⟩) (sl + n) sc) h' nx
    | none => bo (Nat.beq n 0) (.ok (.slice (some ⟨id, off, none⟩) (sl + n) sc) h nx) .bad)
    (match srcCells h s sl (.slice (some ⟨id, off, none⟩) sl sc) with
    | some olds => mNewRow P h nx el s (sl + n) (olds ++ news)
    | none => .bad)
noncomputable def appOpen (P : Program) (h : Hp) (nx : Nat) (el s n sl sc id off z : Nat) (news : List Value) : OR :=
  bo (Nat.beq z s && Nat.beq sc 0) (match h.get id with
    | some (.cells el' m k c) => bo (Nat.ble (off + (sl + n) * s) m)
        (match wrCells h id (off + sl * s) news with
        | some h' => .ok (.slice (some ⟨id, off, some z⟩) (sl + n) 0) h' nx
        | none => .bad)
        (match zeroTy P el with
        | some zv => bo (Nat.beq zv.cells.toList.length s && (Nat.beq (off + sl * s) m && (Nat.beq k 0 && Nat.beq el el'))) (bo (Nat.beq off 0) (stS news c m (fun c => delS h id (fun h => newB h nx (.cells el (m + news.length) 0 c) (.slice (some ⟨nx, 0, some s⟩) (sl + n) 0))))
            (match ldN c (sl * s) off with
            | some olds => listS (olds ++ news) (fun l => delS h id (fun h => newB h nx (.cells el l.length 0 (Tb.of l)) (.slice (some ⟨nx, 0, some s⟩) (sl + n) 0)))
            | none => .bad)) .bad
        | none => .bad)
    | _ => .bad) .bad
noncomputable def mAppend (P : Program) (h : Hp) (nx : Nat) (t : TypeId) (a x : Option Value) : OR :=
  match a, x with
  | some (.slice a sl sc), some x => match sliceElem P t, lenV x with
    | some (el, s), some n => match P.info? el, srcCells h s n x with
      | some i, some news => bo (Nat.blt 0 s && (Nat.ble (sl + n) 16777216 && (Nat.ble i.bytes 1048576 && news.all (·.oneCell')))) (match a with
        | none => appNil P h nx el s n sl sc news
        | some ⟨id, off, none⟩ => appExact P h nx el s n sl sc id off news
        | some ⟨id, off, some z⟩ => appOpen P h nx el s n sl sc id off z news) .bad
      | _, _ => .bad
    | _, _ => .bad
  | _, _ => .bad
noncomputable def mNil (h : Hp) (nx : Nat) : Option Value → OR
  | some (.pointer (some a)) => .ok (.pointer (some a)) h nx
  | some (.func (.func f) a b) => .ok (.func (.func f) a b) h nx
  | _ => .bad
noncomputable def mPick (h : Hp) (nx : Nat) : Option Value → Option Value → Option Value → OR
  | some (.bool c), some a, some b => .ok (bo c a b) h nx
  | _, _, _ => .bad
noncomputable def mMove (h : Hp) (nx : Nat) (v : Option Value) : OR := oo v .bad (fun v => .ok v h nx)
noncomputable def mExtract (h : Hp) (nx : Nat) (i : Nat) : Option Value → OR
  | some (.tuple ⟨vs⟩) => match vs[i]? with
    | some v => .ok v h nx
    | none => .bad
  | _ => .bad
noncomputable def mFunc (h : Hp) (nx : Nat) (f : Fn) : Option (List Value) → Option (List Value) → OR
  | some xs, some ys => match f with
    | .func f => .ok (.func (.func f) ⟨xs⟩ ⟨ys⟩) h nx
    | _ => .bad
  | _, _ => .bad
noncomputable def mIface (P : Program) (h : Hp) (nx : Nat) (t : TypeId) : Option Value → OR
  | some v => match P.underlying t with
    | some (.interface _) => .bad
    | some _ => .ok (.iface t v) h nx
    | none => .bad
  | none => .bad
noncomputable def mArr (P : Program) (h : Hp) (nx : Nat) (t : TypeId) : Option Value → OR
  | some (.slice (some ⟨id, off, _⟩) len _) => match arrElem P t with
    | some (n, _, _) => bo (Nat.ble n len && Nat.blt 0 len) (.ok (.pointer (some ⟨id, off, none⟩)) h nx) .bad
    | none => .bad
  | _ => .bad

/-- Keys that are told apart at once. -/
noncomputable def keyEq : Value → Value → Option Bool
  | .string a, .string b => some (byEq a.data.toList b.data.toList)
  | .int k a, .int k' b => bo (Nat.beq (ikn k) (ikn k')) (some (iEq a b)) none
  | .bool a, .bool b => some (a == b)
  | _, _ => none
/-- A map's key and element types, where the key is of such a kind. -/
def keyTy (P : Program) (t : TypeId) (k : Value) : Option TypeId :=
  match P.underlying t with
  | some (.map kt v) => match P.underlying kt, k with
    | some .string, .string _ => some v
    | some (.int _), .int _ _ => some v
    | some .bool, .bool _ => some v
    | _, _ => none
  | _ => none
noncomputable def findL (k : Value) : List (Value × Value) → Nat → Option (Option (Nat × Value))
  | [], _ => some none
  | p :: r, i => match keyEq k p.1 with
    | some true => some (some (i, p.2))
    | some false => findL k r (i + 1)
    | none => none
noncomputable def mMakeMap (P : Program) (h : Hp) (nx : Nat) (t : TypeId) : Option (Option Value) → OR
  | none => newB h nx (.map 0 [] []) (.map (some nx))
  | some (some (.int _ _)) => match P.underlying t with
    | some (.map _ _) => newB h nx (.map 0 [] []) (.map (some nx))
    | _ => .bad
  | _ => .bad
/-- The entries of a map. -/
noncomputable def mapL (h : Hp) : Option Nat → Option (List (Value × Value))
  | none => some []
  | some id => match h.get id with
    | some (.map _ _ l) => some l
    | _ => none
noncomputable def mLookup (P : Program) (h : Hp) (nx : Nat) (t : TypeId) (ok : Bool) : Option Value → Option Value → OR
  | some (.map r), some k => match keyTy P t k, mapL h r with
    | some el, some l => match findL k l 0 with
      | some (some (_, v)) => .ok (bo ok (.tuple ⟨[v, .bool true]⟩) v) h nx
      | some none => match zeroTy P el with
        | some z => .ok (bo ok (.tuple ⟨[z, .bool false]⟩) z) h nx
        | none => .bad
      | none => .bad
    | _, _ => .bad
  | _, _ => .bad
noncomputable def mUpdate (P : Program) (h : Hp) (nx : Nat) (t : TypeId) : Option Value → Option Value → Option Value → OR
  | some (.map (some id)), some k, some v => match keyTy P t k, h.get id with
    | some _, some (.map cl bs l) => match findL k l 0 with
      | some (some (i, _)) => listS (l.set i (k, v)) (fun l => putS h id (.map cl bs l) (fun h => .ok undef h nx))
      | some none => natS (cl + 1) (fun cl' => listS (bs ++ [cl]) (fun bs => listS (l ++ [(k, v)]) (fun l => putS h id (.map cl' bs l) (fun h => .ok undef h nx))))
      | none => .bad
    | _, _ => .bad
  | _, _, _ => .bad

/-- A range over a text or a map begins. -/
noncomputable def mRange (P : Program) (h : Hp) (nx : Nat) (t : TypeId) : Option Value → OR
  | some (.string s) => match P.underlying t with
    | some .string => newB h nx (.iter s 0) (.pointer (some ⟨nx, 0, none⟩))
    | _ => .bad
  | some (.map none) => match P.underlying t with
    | some (.map _ _) => newB h nx (.miter none 0 [] 0) (.pointer (some ⟨nx, 0, none⟩))
    | _ => .bad
  | some (.map (some id)) => match P.underlying t, h.get id with
    | some (.map _ _), some (.map cl _ _) => newB h nx (.miter (some id) cl [] cl) (.pointer (some ⟨nx, 0, none⟩))
    | _, _ => .bad
  | _ => .bad
/-- The entries that have not come yet. -/
noncomputable def leftL (seen : List Nat) : List Nat → List (Value × Value) → List (Nat × (Value × Value))
  | b :: bs, p :: l => bo (seen.contains b) (leftL seen bs l) ((b, p) :: leftL seen bs l)
  | _, _ => []
noncomputable def mNext (h : Hp) (nx : Nat) (str : Bool) : Option Value → OR
  | some (.pointer (some ⟨id, 0, none⟩)) => match h.get id with
    | some (.iter s pos) => bo str (bo (Nat.blt pos s.data.toList.length)
        (natS (pos + (Utf8.decode s pos).2) (fun p' => putS h id (.iter s p') (fun h => .ok (.tuple ⟨[.bool true, .int .i64 (.ofNat pos), .int .i32 (Utf8.decode s pos).1]⟩) h nx)))
        (.ok (.tuple ⟨[.bool false]⟩) h nx)) .bad
    | some (.miter none _ _ _) => bo str .bad (.ok (.tuple ⟨[.bool false]⟩) h nx)
    | some (.miter (some m) since seen last) => bo str .bad (match h.get m with
      | some (.map cl bs l) => bo (!seen.isEmpty && (!bs.isEmpty && bs.all (fun b => Nat.ble last b))) .bad (match leftL seen bs l with
        | [] => .ok (.tuple ⟨[.bool false]⟩) h nx
        | [(b, (k, v))] => bo (Nat.blt b since) (listS (seen ++ [b]) (fun seen => putS h id (.miter (some m) since seen cl) (fun h => .ok (.tuple ⟨[.bool true, k, v]⟩) h nx))) .bad
        | _ => .bad)
      | _ => .bad)
    | _ => .bad
  | _ => .bad

noncomputable def findB (b : Nat) : List Nat → List (Value × Value) → Option (Value × Value)
  | c :: bs, p :: l => bo (Nat.beq c b) (some p) (findB b bs l)
  | _, _ => none
/-- The entry of the last step. -/
noncomputable def mEntry (h : Hp) (nx : Nat) : Option Value → OR
  | some (.pointer (some ⟨id, 0, none⟩)) => match h.get id with
    | some (.miter (some m) _ seen last) => match h.get m, seen.getLast? with
      | some (.map cl bs l), some b => bo (Nat.beq cl last) (match findB b bs l with
        | some (k, v) => .ok (.tuple ⟨[k, v]⟩) h nx
        | none => .bad) .bad
      | _, _ => .bad
    | _ => .bad
  | _ => .bad
/-- An entry to be written: its value and its number. -/
noncomputable def mMapEntry (P : Program) (h : Hp) (nx : Nat) (t : TypeId) : Option Value → Option Value → OR
  | some (.map (some id)), some k => match keyTy P t k, h.get id with
    | some el, some (.map cl bs l) => match findL k l 0 with
      | some (some (i, v)) => match bs[i]? with
        | some b => putS h id (.map cl bs l) (fun h => .ok (.tuple ⟨[v, .int .i64 (.ofNat b)]⟩) h nx)
        | none => .bad
      | some none => match zeroTy P el with
        | some z => natS (cl + 1) (fun cl' => listS (bs ++ [cl]) (fun bs => listS (l ++ [(k, z)]) (fun l => putS h id (.map cl' bs l) (fun h => .ok (.tuple ⟨[z, .int .i64 (.ofNat cl)]⟩) h nx))))
        | none => .bad
      | none => .bad
    | _, _ => .bad
  | _, _ => .bad
noncomputable def idxB (b : Nat) : List Nat → Nat → Option Nat
  | c :: bs, i => bo (Nat.beq c b) (some i) (idxB b bs (i + 1))
  | [], _ => none
def setV : List (Value × Value) → Nat → Value → List (Value × Value)
  | p :: l, 0, x => (p.1, x) :: l
  | p :: l, i + 1, x => p :: setV l i x
  | [], _, _ => []
noncomputable def mEntryStore (h : Hp) (nx : Nat) : Option Value → Option Value → Option Value → OR
  | some (.map (some id)), some (.int _ (.ofNat b)), some x => match h.get id with
    | some (.map cl bs l) => match idxB b bs 0 with
      | some i => listS (setV l i x) (fun l => putS h id (.map cl bs l) (fun h => .ok undef h nx))
      | none => .bad
    | _ => .bad
  | _, _, _ => .bad

/-- What a call comes to. -/
abbrev CallF := FuncId → List Value → Hp → Nat → OR
/-- Is it a function of the program's own? -/
noncomputable def callB (P : Program) (f : FuncId) : Bool :=
  match P.funcs[f]? with
  | some fn => fn.body.isSome && !(fn.name == "runtime.NumGoroutine")
  | none => false
noncomputable def mCall (P : Program) (call : CallF) (h : Hp) (nx : Nat) : Option Value → Option (List Value) → OR
  | some (.func (.func f) ⟨xs⟩ ⟨cs⟩), some vs => bo (callB P f) (call f (xs ++ (vs ++ cs)) h nx) .bad
  | some (.func (.yield l) ⟨[]⟩ ⟨[]⟩), some vs => natS (Nat.add P.funcs.size l) (fun f => call f vs h nx)
  | _, _ => .bad
noncomputable def mBuiltin (P : Program) (G : Nat) (e : Tb Value) (h : Hp) (nx : Nat) (o : Oper) (b : Builtin) (args : List Operand) (ts : List TypeId) : OR :=
  match b, args, ts with
  | .len, [x], [t] => mLen P h nx t (evO G e x)
  | .append, [s, x], [t, u] => match P.underlying u with
    | some (.slice _) => mAppend P h nx t (evO G e s) (evO G e x)
    | some .string => mAppend P h nx t (evO G e s) (evO G e x)
    | _ => .bad
  | .copy, [d, x], [t, _] => mCopy P h nx t (evO G e d) (evO G e x)
  | .clear, [x], [t] => mClear P h nx t (evO G e x)
  | .min, _, _ => mFlat P G e h nx o
  | .max, _, _ => mFlat P G e h nx o
  | _, _, _ => .bad
/-- One operation, by its kind. -/
abbrev BrF := Program → Nat → CallF → Tb Value → Hp → Nat → Oper → OR
noncomputable def b_move (x : Operand) : BrF := fun _ G _ e h nx _ => mMove h nx (evO G e x)
noncomputable def b_assign (x : Operand) : BrF := fun _ G _ e h nx _ => mMove h nx (evO G e x)
noncomputable def b_pick (c a b : Operand) : BrF := fun _ G _ e h nx _ => mPick h nx (evO G e c) (evO G e a) (evO G e b)
noncomputable def b_alloc (el : TypeId) : BrF := fun P _ _ _ h nx _ => mAlloc P h nx el
noncomputable def b_box (el : TypeId) (x : Operand) : BrF := fun _ G _ e h nx _ => mBox h nx el (evO G e x)
noncomputable def b_build (t : TypeId) (ps : Array (Nat × Operand)) : BrF := fun P G _ e h nx _ => mBuild P h nx t (evP G e ps.toList)
noncomputable def b_buildSlice (t : TypeId) (m : Nat) (ps : Array (Nat × Operand)) : BrF := fun P G _ e h nx _ => mBuildSlice P h nx t m (evP G e ps.toList)
noncomputable def b_insert (t : TypeId) (m k x : Operand) : BrF := fun P G _ e h nx _ => mUpdate P h nx t (evO G e m) (evO G e k) (evO G e x)
noncomputable def b_load (t : TypeId) (a : Operand) : BrF := fun P G _ e h nx _ => mLoad P h nx t (evO G e a)
noncomputable def b_store (t : TypeId) (a x : Operand) : BrF := fun P G _ e h nx _ => mStore P h nx t (evO G e a) (evO G e x)
noncomputable def b_nilCheck (x : Operand) : BrF := fun _ G _ e h nx _ => mNil h nx (evO G e x)
noncomputable def b_binOp (op : BinOp) (t : TypeId) (x y : Operand) (_ : TypeId) : BrF := fun P G _ e h nx o => mBin P G e h nx o op t (evO G e x) (evO G e y)
noncomputable def b_unOp (_ : UnOp) (_ : TypeId) (_ : Operand) : BrF := fun P G _ e h nx o => mFlat P G e h nx o
noncomputable def b_convert (s d : TypeId) (x : Operand) : BrF := fun P G _ e h nx o => mConv P G e h nx o s d (evO G e x)
noncomputable def b_sliceToArrayPointer (t : TypeId) (x : Operand) : BrF := fun P G _ e h nx _ => mArr P h nx t (evO G e x)
noncomputable def b_makeInterface (t : TypeId) (x : Operand) : BrF := fun P G _ e h nx _ => mIface P h nx t (evO G e x)
noncomputable def b_makeFunc (f : Fn) (xs ys : Array Operand) : BrF := fun _ G _ e h nx _ => mFunc h nx f (evL G e xs.toList) (evL G e ys.toList)
noncomputable def b_makeMap (t : TypeId) (r : Option Operand) : BrF := fun P G _ e h nx _ => mMakeMap P h nx t (r.map (evO G e))
noncomputable def b_makeSlice (t : TypeId) (l c : Operand) : BrF := fun P G _ e h nx _ => mMakeSlice P h nx t (evO G e l) (evO G e c)
noncomputable def b_slice (t : TypeId) (x : Operand) (lo hi mx : Option Operand) : BrF := fun P G _ e h nx _ => mSlice P h nx t (evO G e x) (lo.map (evO G e)) (hi.map (evO G e)) (mx.map (evO G e))
noncomputable def b_fieldAddr (s : TypeId) (x : Operand) (f : Nat) : BrF := fun P G _ e h nx _ => mFieldAddr P h nx s f (evO G e x)
noncomputable def b_field (s : TypeId) (x : Operand) (f : Nat) : BrF := fun P G _ e h nx _ => mField P h nx s f (evO G e x)
noncomputable def b_indexAddr (t : TypeId) (x i : Operand) : BrF := fun P G _ e h nx _ => mIndexAddr P h nx t (evO G e x) (evO G e i)
noncomputable def b_index (t : TypeId) (x i : Operand) : BrF := fun P G _ e h nx _ => mIndex P h nx t (evO G e x) (evO G e i)
noncomputable def b_lookup (t : TypeId) (x i : Operand) (ok : Bool) : BrF := fun P G _ e h nx _ => mLookup P h nx t ok (evO G e x) (evO G e i)
noncomputable def b_mapUpdate (t : TypeId) (m k x : Operand) : BrF := fun P G _ e h nx _ => mUpdate P h nx t (evO G e m) (evO G e k) (evO G e x)
noncomputable def b_range (t : TypeId) (x : Operand) : BrF := fun P G _ e h nx _ => mRange P h nx t (evO G e x)
noncomputable def b_next (x : Operand) (b : Bool) : BrF := fun _ G _ e h nx _ => mNext h nx b (evO G e x)
noncomputable def b_mapEntry (t : TypeId) (m k : Operand) : BrF := fun P G _ e h nx _ => mMapEntry P h nx t (evO G e m) (evO G e k)
noncomputable def b_entryStore (_ : TypeId) (m s x : Operand) : BrF := fun _ G _ e h nx _ => mEntryStore h nx (evO G e m) (evO G e s) (evO G e x)
noncomputable def b_entry (x : Operand) : BrF := fun _ G _ e h nx _ => mEntry h nx (evO G e x)
noncomputable def b_extract (x : Operand) (i : Nat) : BrF := fun _ G _ e h nx _ => mExtract h nx i (evO G e x)
noncomputable def b_call (c : Call) : BrF := fun P G call e h nx o => match c.callee with
    | .value f => mCall P call h nx (evO G e f) (evL G e c.args.toList)
    | .builtin b => mBuiltin P G e h nx o b c.args.toList c.argTypes.toList
    | _ => .bad
noncomputable def bBad : BrF := fun _ _ _ _ _ _ _ => .bad
/-- One operation, as the proofs take it. -/
noncomputable def sOp (P : Program) (G : Nat) (call : CallF) (e : Tb Value) (h : Hp) (nx : Nat) (o : Oper) : OR :=
  @Op.rec (fun _ => BrF) b_move b_assign b_pick b_alloc b_box b_build b_buildSlice b_insert b_load b_store (fun _ => bBad) (fun _ => bBad) b_nilCheck b_binOp b_unOp b_convert b_sliceToArrayPointer b_makeInterface b_makeFunc b_makeMap (fun _ _ => bBad) b_makeSlice b_slice b_fieldAddr b_field b_indexAddr b_index b_lookup b_mapUpdate b_mapEntry b_entryStore b_range b_next b_entry (fun _ _ _ _ => bBad) b_extract b_call (fun _ => bBad) (fun _ => bBad) (fun _ => bBad) (fun _ _ => bBad) (fun _ _ _ => bBad) (fun _ _ => bBad) o.op P G call e h nx o
/-- The rest of this text: the same once more, with few steps for the kernel. -/
noncomputable def valR (v : Value) : (Value → Option (Tb Value)) → Option (Tb Value) :=
  @Value.rec (fun _ => (Value → Option (Tb Value)) → Option (Tb Value)) (fun _ => Unit) (fun _ => Unit)
    (fun b f => @Bool.rec (fun _ => Option (Tb Value)) (f (.bool false)) (f (.bool true)) b)
    (fun k n f => @Int.rec (fun _ => Option (Tb Value)) (fun m => natS m (fun m => f (.int k (.ofNat m)))) (fun m => natS m (fun m => f (.int k (.negSucc m)))) n)
    (fun k n f => f (.float k n))
    (fun k r i f => f (.complex k r i))
    (fun s f => f (.string s))
    (fun a f => @Option.rec Addr (fun _ => Option (Tb Value)) (f (.pointer none)) (fun ad => @Addr.rec (fun _ => Option (Tb Value)) (fun b o sp => natS o (fun o => f (.pointer (some ⟨b, o, sp⟩)))) ad) a)
    (fun a n c f => @Option.rec Addr (fun _ => Option (Tb Value)) (f (.slice none n c)) (fun ad => @Addr.rec (fun _ => Option (Tb Value)) (fun b o sp => natS o (fun o => natS n (fun n => natS c (fun c => f (.slice (some ⟨b, o, sp⟩) n c))))) ad) a)
    (fun r f => f (.map r))
    (fun r f => f (.chan r))
    (fun g x y _ _ f => f (.func g x y))
    (fun f => f .nilFunc)
    (fun t v _ f => f (.iface t v))
    (fun f => f .nilIface)
    (fun x _ f => f (.agg x))
    (fun x _ f => f (.tuple x))
    (fun _ _ => ()) () (fun _ _ _ _ => ()) v
theorem valR_eq (v : Value) (f : Value → Option (Tb Value)) : valR v f = f v := by
  cases v with
  | bool b => cases b <;> rfl
  | int k n => cases n with
    | ofNat m => exact natS_eq m fun m => f (.int k (.ofNat m))
    | negSucc m => exact natS_eq m fun m => f (.int k (.negSucc m))
  | pointer a => rcases a with _ | ⟨b, o, sp⟩
                 · rfl
                 · exact natS_eq o fun o => f (.pointer (some ⟨b, o, sp⟩))
  | slice a n c => rcases a with _ | ⟨b, o, sp⟩
                   · rfl
                   · show natS o (fun o => natS n (fun n => natS c (fun c => f (.slice (some ⟨b, o, sp⟩) n c)))) = _
                     rw [natS_eq, natS_eq, natS_eq]
  | _ => rfl
noncomputable def vPtr (v : Value) : OR → (Nat → Nat → OR) → OR :=
  @Value.rec (fun _ => OR → (Nat → Nat → OR) → OR) (fun _ => Unit) (fun _ => Unit)
    (fun _ d _ => d)
    (fun _ _ d _ => d)
    (fun _ _ d _ => d)
    (fun _ _ _ d _ => d)
    (fun _ d _ => d)
    (fun a d s => @Option.rec Addr (fun _ => OR) d (fun ad => @Addr.rec (fun _ => OR) (fun b o sp => @Option.rec Nat (fun _ => OR) (s b o) (fun _ => d) sp) ad) a)
    (fun _ _ _ d _ => d)
    (fun _ d _ => d)
    (fun _ d _ => d)
    (fun _ _ _ _ _ d _ => d)
    (fun d _ => d)
    (fun _ _ _ d _ => d)
    (fun d _ => d)
    (fun _ _ d _ => d)
    (fun _ _ d _ => d)
    (fun _ _ => ()) () (fun _ _ _ _ => ()) v
noncomputable def vNat (v : Value) : OR → (Nat → OR) → OR :=
  @Value.rec (fun _ => OR → (Nat → OR) → OR) (fun _ => Unit) (fun _ => Unit)
    (fun _ d _ => d)
    (fun _ n d s => @Int.rec (fun _ => OR) (fun m => s m) (fun _ => d) n)
    (fun _ _ d _ => d)
    (fun _ _ _ d _ => d)
    (fun _ d _ => d)
    (fun _ d _ => d)
    (fun _ _ _ d _ => d)
    (fun _ d _ => d)
    (fun _ d _ => d)
    (fun _ _ _ _ _ d _ => d)
    (fun d _ => d)
    (fun _ _ _ d _ => d)
    (fun d _ => d)
    (fun _ _ d _ => d)
    (fun _ _ d _ => d)
    (fun _ _ => ()) () (fun _ _ _ _ => ()) v
noncomputable def vIdx (v : Value) : OR → (Nat → Nat → Nat → OR) → (Nat → Nat → OR) → OR :=
  @Value.rec (fun _ => OR → (Nat → Nat → Nat → OR) → (Nat → Nat → OR) → OR) (fun _ => Unit) (fun _ => Unit)
    (fun _ d _ _ => d)
    (fun _ _ d _ _ => d)
    (fun _ _ d _ _ => d)
    (fun _ _ _ d _ _ => d)
    (fun _ d _ _ => d)
    (fun a d _ p => @Option.rec Addr (fun _ => OR) d (fun ad => @Addr.rec (fun _ => OR) (fun b o sp => @Option.rec Nat (fun _ => OR) (p b o) (fun _ => d) sp) ad) a)
    (fun a n _ d s _ => @Option.rec Addr (fun _ => OR) d (fun ad => @Addr.rec (fun _ => OR) (fun b o _ => s b o n) ad) a)
    (fun _ d _ _ => d)
    (fun _ d _ _ => d)
    (fun _ _ _ _ _ d _ _ => d)
    (fun d _ _ => d)
    (fun _ _ _ d _ _ => d)
    (fun d _ _ => d)
    (fun _ _ d _ _ => d)
    (fun _ _ d _ _ => d)
    (fun _ _ => ()) () (fun _ _ _ _ => ()) v
noncomputable def vTup (v : Value) : OR → (List Value → OR) → OR :=
  @Value.rec (fun _ => OR → (List Value → OR) → OR) (fun _ => Unit) (fun _ => Unit)
    (fun _ d _ => d)
    (fun _ _ d _ => d)
    (fun _ _ d _ => d)
    (fun _ _ _ d _ => d)
    (fun _ d _ => d)
    (fun _ d _ => d)
    (fun _ _ _ d _ => d)
    (fun _ d _ => d)
    (fun _ d _ => d)
    (fun _ _ _ _ _ d _ => d)
    (fun d _ => d)
    (fun _ _ _ d _ => d)
    (fun d _ => d)
    (fun _ _ d _ => d)
    (fun x _ _ s => s x.toList)
    (fun _ _ => ()) () (fun _ _ _ _ => ()) v
noncomputable def vAgg (v : Value) : OR → (List Value → OR) → OR :=
  @Value.rec (fun _ => OR → (List Value → OR) → OR) (fun _ => Unit) (fun _ => Unit)
    (fun _ d _ => d)
    (fun _ _ d _ => d)
    (fun _ _ d _ => d)
    (fun _ _ _ d _ => d)
    (fun _ d _ => d)
    (fun _ d _ => d)
    (fun _ _ _ d _ => d)
    (fun _ d _ => d)
    (fun _ d _ => d)
    (fun _ _ _ _ _ d _ => d)
    (fun d _ => d)
    (fun _ _ _ d _ => d)
    (fun d _ => d)
    (fun x _ _ s => s x.toList)
    (fun _ _ d _ => d)
    (fun _ _ => ()) () (fun _ _ _ _ => ()) v
noncomputable def vSlN (v : Value) : OR → (Nat → OR) → OR :=
  @Value.rec (fun _ => OR → (Nat → OR) → OR) (fun _ => Unit) (fun _ => Unit)
    (fun _ d _ => d)
    (fun _ _ d _ => d)
    (fun _ _ d _ => d)
    (fun _ _ _ d _ => d)
    (fun _ d _ => d)
    (fun _ d _ => d)
    (fun _ n _ _ s => s n)
    (fun _ d _ => d)
    (fun _ d _ => d)
    (fun _ _ _ _ _ d _ => d)
    (fun d _ => d)
    (fun _ _ _ d _ => d)
    (fun d _ => d)
    (fun _ _ d _ => d)
    (fun _ _ d _ => d)
    (fun _ _ => ()) () (fun _ _ _ _ => ()) v
noncomputable def vFn (v : Value) : OR → (Nat → List Value → List Value → OR) → OR :=
  @Value.rec (fun _ => OR → (Nat → List Value → List Value → OR) → OR) (fun _ => Unit) (fun _ => Unit)
    (fun _ d _ => d)
    (fun _ _ d _ => d)
    (fun _ _ d _ => d)
    (fun _ _ _ d _ => d)
    (fun _ d _ => d)
    (fun _ d _ => d)
    (fun _ _ _ d _ => d)
    (fun _ d _ => d)
    (fun _ d _ => d)
    (fun g x y _ _ d s => match g with | .func f => s f x.toList y.toList | _ => d)
    (fun d _ => d)
    (fun _ _ _ d _ => d)
    (fun d _ => d)
    (fun _ _ d _ => d)
    (fun _ _ d _ => d)
    (fun _ _ => ()) () (fun _ _ _ _ => ()) v
noncomputable def vSomeP (v : Value) : OR → OR → OR :=
  @Value.rec (fun _ => OR → OR → OR) (fun _ => Unit) (fun _ => Unit)
    (fun _ d _ => d)
    (fun _ _ d _ => d)
    (fun _ _ d _ => d)
    (fun _ _ _ d _ => d)
    (fun _ d _ => d)
    (fun a d s => @Option.rec Addr (fun _ => OR) d (fun _ => s) a)
    (fun _ _ _ d _ => d)
    (fun _ d _ => d)
    (fun _ d _ => d)
    (fun _ _ _ _ _ d _ => d)
    (fun d _ => d)
    (fun _ _ _ d _ => d)
    (fun d _ => d)
    (fun _ _ d _ => d)
    (fun _ _ d _ => d)
    (fun _ _ => ()) () (fun _ _ _ _ => ()) v
noncomputable def cellsL (v : Value) : List Value :=
  @Value.rec (fun _ => List Value) (fun _ => Unit) (fun _ => Unit)
    (fun b => [(.bool b)])
    (fun k n => [(.int k n)])
    (fun k n => [(.float k n)])
    (fun k r i => [(.complex k r i)])
    (fun s => [(.string s)])
    (fun a => [(.pointer a)])
    (fun a n c => [(.slice a n c)])
    (fun r => [(.map r)])
    (fun r => [(.chan r)])
    (fun g x y _ _ => [(.func g x y)])
    ([.nilFunc])
    (fun t v _ => [(.iface t v)])
    ([.nilIface])
    (fun x _ => x.toList)
    (fun x _ => [(.tuple x)])
    (fun _ _ => ()) () (fun _ _ _ _ => ()) v
noncomputable def vGd (v : Value) : Bool → Option Bool :=
  @Value.rec (fun _ => Bool → Option Bool) (fun _ => Unit) (fun _ => Unit)
    (fun b w => some (@Bool.rec (fun _ => Bool) (@Bool.rec (fun _ => Bool) true false w) w b))
    (fun _ _ _ => none)
    (fun _ _ _ => none)
    (fun _ _ _ _ => none)
    (fun _ _ => none)
    (fun _ _ => none)
    (fun _ _ _ _ => none)
    (fun _ _ => none)
    (fun _ _ => none)
    (fun _ _ _ _ _ _ => none)
    (fun _ => none)
    (fun _ _ _ _ => none)
    (fun _ => none)
    (fun _ _ _ => none)
    (fun x _ _ => @List.rec Value (fun _ => Option Bool) (some false) (fun _ _ _ => none) x.toList)
    (fun _ _ => ()) () (fun _ _ _ _ => ()) v
theorem cellsL_eq (v : Value) : cellsL v = v.cells.toList := by cases v <;> rfl
noncomputable def blCells (B : Option Bl) (d : OR) (s : Tb Value → OR) : OR :=
  @Option.rec Bl (fun _ => OR) d (fun B => @Bl.rec (fun _ => OR) (fun _ _ _ c => s c) (fun _ _ _ => d) (fun _ _ => d) (fun _ _ _ _ => d) (fun _ _ _ _ _ _ _ => d) B) B
noncomputable def blCellsW (B : Option Bl) (s : Nat → Nat → Nat → Tb Value → Option Hp) : Option Hp :=
  @Option.rec Bl (fun _ => Option Hp) none (fun B => @Bl.rec (fun _ => Option Hp) s (fun _ _ _ => none) (fun _ _ => none) (fun _ _ _ _ => none) (fun _ _ _ _ _ _ _ => none) B) B
noncomputable def fLoad (P : Program) (h : Hp) (nx : Nat) (t : TypeId) (x : Option Value) : OR :=
  oo x .bad (fun x => vPtr x .bad (fun id off => blCells (h.get id) .bad (fun c => oo (rowSz P t) .bad (fun r => @Option.rec Nat (fun _ => OR) (oo (c.get off) .bad (fun v => .ok v h nx)) (fun n => oo (ldN c n off) .bad (fun l => .ok (.agg ⟨l⟩) h nx)) r))))
theorem fLoad_eq (P : Program) (h : Hp) (nx : Nat) (t : TypeId) (x : Option Value) : fLoad P h nx t x = mLoad P h nx t x := by
  cases x with
  | none => rfl
  | some x =>
    cases x with
    | pointer a =>
      rcases a with _ | ⟨b, o, _ | z⟩
      · rfl
      · show blCells (h.get b) .bad _ = _
        unfold mLoad
        simp only
        generalize h.get b = B
        rcases B with _ | B
        · rfl
        · cases B with
          | cells el n k c =>
            show oo (rowSz P t) _ _ = _
            generalize rowSz P t = r
            rcases r with _ | r
            · rfl
            · rcases r with _ | n
              · show oo (c.get o) _ _ = _
                simp only
                generalize c.get o = q
                cases q <;> rfl
              · show oo (ldN c n o) _ _ = _
                simp only
                generalize ldN c n o = q
                cases q <;> rfl
          | _ => rfl
      · rfl
    | _ => rfl
noncomputable def lenR (l : List Value) : Nat := @List.rec Value (fun _ => Nat) 0 (fun _ _ ih => Nat.succ ih) l
theorem lenR_eq : ∀ l : List Value, lenR l = l.length
  | [] => rfl
  | _ :: l => congrArg Nat.succ (lenR_eq l)
noncomputable def oneR (v : Value) : Bool :=
  @Value.rec (fun _ => Bool) (fun _ => Unit) (fun _ => Unit)
    (fun _ => true)
    (fun _ _ => true)
    (fun _ _ => true)
    (fun _ _ _ => true)
    (fun _ => true)
    (fun _ => true)
    (fun _ _ _ => true)
    (fun _ => true)
    (fun _ => true)
    (fun _ _ _ _ _ => true)
    (true)
    (fun _ _ _ => true)
    (true)
    (fun _ _ => false)
    (fun _ _ => false)
    (fun _ _ => ()) () (fun _ _ _ _ => ()) v
theorem oneR_eq (v : Value) : oneR v = v.oneCell' := by cases v <;> rfl
noncomputable def allOne (l : List Value) : Bool := @List.rec Value (fun _ => Bool) true (fun v _ ih => bo (oneR v) ih false) l
theorem allOne_eq : ∀ l : List Value, allOne l = l.all (·.oneCell')
  | [] => rfl
  | v :: l => by
    show bo (oneR v) (allOne l) false = _
    rw [allOne_eq l, oneR_eq, List.all_cons]
    cases v.oneCell' <;> rfl
noncomputable def fWr (h : Hp) (id off : Nat) (vs : List Value) : Option Hp :=
  blCellsW (h.get id) (fun el n k c => bo (Nat.ble (Nat.add off (lenR vs)) n) (bo (Nat.beq k 0) (bo (allOne vs) (stS vs c off (fun c => putS h id (.cells el n k c) some)) none) none) none)
theorem fWr_eq (h : Hp) (id off : Nat) (vs : List Value) : fWr h id off vs = wrCells h id off vs := by
  unfold fWr wrCells
  generalize h.get id = B
  rcases B with _ | B
  · rfl
  · cases B with
    | cells el n k c =>
      show bo (Nat.ble (off + lenR vs) n) _ none = bo (Nat.ble (off + vs.length) n && (Nat.beq k 0 && vs.all (·.oneCell'))) _ none
      rw [lenR_eq, allOne_eq]
      cases Nat.ble (off + vs.length) n <;> cases Nat.beq k 0 <;> cases vs.all (·.oneCell') <;> rfl
    | _ => rfl
noncomputable def fStore (P : Program) (h : Hp) (nx : Nat) (t : TypeId) (x y : Option Value) : OR :=
  oo x .bad (fun x => oo y .bad (fun v => vPtr x .bad (fun id off => oo (sizeTy P t) .bad (fun n => bo (Nat.beq (lenR (cellsL v)) n) (oo (fWr h id off (cellsL v)) .bad (fun h' => .ok undef h' nx)) .bad))))
theorem fStore_eq (P : Program) (h : Hp) (nx : Nat) (t : TypeId) (x y : Option Value) : fStore P h nx t x y = mStore P h nx t x y := by
  cases x with
  | none => rfl
  | some x =>
    cases y with
    | none =>
      cases x with
      | pointer a => rcases a with _ | ⟨b, o, _ | z⟩ <;> rfl
      | _ => rfl
    | some v =>
      cases x with
      | pointer a =>
        rcases a with _ | ⟨b, o, _ | z⟩
        · rfl
        · show oo (sizeTy P t) OR.bad _ = _
          unfold mStore
          simp only
          generalize sizeTy P t = r
          rcases r with _ | n
          · rfl
          · show bo (Nat.beq (lenR (cellsL v)) n) (oo (fWr h b o (cellsL v)) OR.bad _) OR.bad = _
            rw [cellsL_eq, lenR_eq, fWr_eq]
            simp only
            generalize wrCells h b o v.cells.toList = q
            cases q <;> rfl
        · rfl
      | _ => rfl
noncomputable def fFieldAddr (P : Program) (h : Hp) (nx : Nat) (s f : Nat) (x : Option Value) : OR :=
  oo x .bad (fun x => vPtr x .bad (fun id off => oo (fieldOff P s f) .bad (fun k => .ok (.pointer (some ⟨id, Nat.add off k, none⟩)) h nx)))
theorem fFieldAddr_eq (P : Program) (h : Hp) (nx : Nat) (s f : Nat) (x : Option Value) : fFieldAddr P h nx s f x = mFieldAddr P h nx s f x := by
  cases x with
  | none => rfl
  | some x =>
    cases x with
    | pointer a =>
      rcases a with _ | ⟨b, o, _ | z⟩
      · rfl
      · show oo (fieldOff P s f) OR.bad _ = _
        unfold mFieldAddr
        simp only
        generalize fieldOff P s f = r
        cases r <;> rfl
      · rfl
    | _ => rfl
noncomputable def fIndexAddr (P : Program) (h : Hp) (nx : Nat) (t : TypeId) (x i : Option Value) : OR :=
  oo x .bad (fun x => oo i .bad (fun i => vIdx x .bad
    (fun id off len => vNat i .bad (fun m => oo (sliceElem P t) .bad (fun p => bo (Nat.blt m len) (.ok (.pointer (some ⟨id, Nat.add off (Nat.mul m p.2), none⟩)) h nx) .bad)))
    (fun id off => vNat i .bad (fun m => oo (arrElem P t) .bad (fun p => bo (Nat.blt m p.1) (.ok (.pointer (some ⟨id, Nat.add off (Nat.mul m p.2.2), none⟩)) h nx) .bad)))))
theorem fIndexAddr_eq (P : Program) (h : Hp) (nx : Nat) (t : TypeId) (x i : Option Value) : fIndexAddr P h nx t x i = mIndexAddr P h nx t x i := by
  cases x with
  | none => rfl
  | some x =>
    cases i with
    | none => cases x with
      | pointer a => rcases a with _ | ⟨b, o, _ | z⟩ <;> rfl
      | slice a n c => rcases a with _ | ⟨b, o, _ | z⟩ <;> rfl
      | _ => rfl
    | some i =>
      have hs : ∀ id off len sp cap, oo (some i) OR.bad (fun i => vNat i .bad (fun m => oo (sliceElem P t) .bad (fun p => bo (Nat.blt m len) (.ok (.pointer (some ⟨id, Nat.add off (Nat.mul m p.2), none⟩)) h nx) .bad))) = mIndexAddr P h nx t (some (.slice (some ⟨id, off, sp⟩) len cap)) (some i) := fun id off len sp cap => by
        cases i with
        | int k n => cases n with
          | ofNat m =>
            show oo (sliceElem P t) OR.bad _ = _
            unfold mIndexAddr
            simp only
            generalize sliceElem P t = r
            cases r <;> rfl
          | negSucc m => rfl
        | _ => rfl
      cases x with
      | pointer a =>
        rcases a with _ | ⟨b, o, _ | z⟩
        · cases i <;> rfl
        · cases i with
          | int k n => cases n with
            | ofNat m =>
              show oo (arrElem P t) OR.bad _ = _
              unfold mIndexAddr
              simp only
              generalize arrElem P t = r
              cases r <;> rfl
            | negSucc m => rfl
          | _ => rfl
        · cases i <;> rfl
      | slice a n c =>
        rcases a with _ | ⟨b, o, sp⟩
        · cases i <;> rfl
        · exact hs b o n sp c
      | _ => cases i <;> rfl
noncomputable def nthR (l : List Value) : Nat → Option Value := @List.rec Value (fun _ => Nat → Option Value) (fun _ => none) (fun x _ ih i => @Nat.rec (fun _ => Option Value) (some x) (fun m _ => ih m) i) l
theorem nthR_eq : ∀ (l : List Value) (i : Nat), nthR l i = l[i]?
  | [], i => by simp [nthR]
  | x :: l, 0 => rfl
  | x :: l, i + 1 => by rw [List.getElem?_cons_succ]; exact nthR_eq l i
noncomputable def fExtract (h : Hp) (nx : Nat) (i : Nat) (x : Option Value) : OR := oo x .bad (fun x => vTup x .bad (fun vs => oo (nthR vs i) .bad (fun v => .ok v h nx)))
theorem fExtract_eq (h : Hp) (nx : Nat) (i : Nat) (x : Option Value) : fExtract h nx i x = mExtract h nx i x := by
  cases x with
  | none => rfl
  | some x =>
    cases x with
    | tuple vs =>
      obtain ⟨l⟩ := vs
      show oo (nthR l i) OR.bad _ = _
      unfold mExtract
      rw [nthR_eq]
      simp only
      generalize l[i]? = r
      cases r <;> rfl
    | _ => rfl
noncomputable def fField (P : Program) (h : Hp) (nx : Nat) (s f : Nat) (x : Option Value) : OR :=
  oo x .bad (fun x => vAgg x .bad (fun cs => oo (fieldPl P s f) .bad (fun p => @Option.rec Nat (fun _ => OR) (oo (nthR cs p.1) .bad (fun v => .ok v h nx)) (fun n => .ok (.agg ⟨(cs.drop p.1).take n⟩) h nx) p.2)))
theorem fField_eq (P : Program) (h : Hp) (nx : Nat) (s f : Nat) (x : Option Value) : fField P h nx s f x = mField P h nx s f x := by
  cases x with
  | none => rfl
  | some x =>
    cases x with
    | agg vs =>
      obtain ⟨l⟩ := vs
      show oo (fieldPl P s f) OR.bad _ = _
      unfold mField
      simp only
      generalize fieldPl P s f = r
      rcases r with _ | ⟨off, _ | n⟩
      · rfl
      · show oo (nthR l off) OR.bad _ = _
        rw [nthR_eq]
        show _ = (match partL l off none with | some v => OR.ok v h nx | none => .bad)
        unfold partL
        generalize l[off]? = q
        cases q <;> rfl
      · rfl
    | _ => rfl
noncomputable def fLen (P : Program) (h : Hp) (nx : Nat) (t : TypeId) (x : Option Value) : OR :=
  oo x .bad (fun x => vSlN x (mLen P h nx t (some x)) (fun n => oo (sliceElem P t) .bad (fun _ => .ok (.int .i64 (.ofNat n)) h nx)))
theorem fLen_eq (P : Program) (h : Hp) (nx : Nat) (t : TypeId) (x : Option Value) : fLen P h nx t x = mLen P h nx t x := by
  cases x with
  | none => rfl
  | some x =>
    cases x with
    | slice a n c =>
      show oo (sliceElem P t) OR.bad _ = _
      unfold mLen
      simp only
      generalize sliceElem P t = r
      cases r <;> rfl
    | _ => rfl
noncomputable def fCall (P : Program) (call : CallF) (h : Hp) (nx : Nat) (x : Option Value) (vs : Option (List Value)) : OR :=
  oo x (mCall P call h nx x vs) (fun f => oo vs (mCall P call h nx x vs) (fun l => vFn f (mCall P call h nx x vs) (fun f xs cs => bo (callB P f) (call f (xs ++ (l ++ cs)) h nx) .bad)))
theorem fCall_eq (P : Program) (call : CallF) (h : Hp) (nx : Nat) (x : Option Value) (vs : Option (List Value)) : fCall P call h nx x vs = mCall P call h nx x vs := by
  cases x with
  | none => rfl
  | some x =>
    cases vs with
    | none => rfl
    | some l =>
      cases x with
      | func g a b => cases g <;> rfl
      | _ => rfl
noncomputable def fNil (h : Hp) (nx : Nat) (x : Option Value) : OR := oo x .bad (fun v => vSomeP v (mNil h nx (some v)) (.ok v h nx))
theorem fNil_eq (h : Hp) (nx : Nat) (x : Option Value) : fNil h nx x = mNil h nx x := by
  cases x with
  | none => rfl
  | some x => cases x with
    | pointer a => cases a <;> rfl
    | _ => rfl
noncomputable def lim (k : IntKind) : Nat := @IntKind.rec (fun _ => Nat) 128 32768 2147483648 9223372036854775808 256 65536 4294967296 18446744073709551616 k
noncomputable def knd (k : IntKind) : Nat := @IntKind.rec (fun _ => Nat) 0 1 2 3 4 5 6 7 k
noncomputable def wrI (k : IntKind) (a : Int) : Int := @Int.rec (fun _ => Int) (fun m => bo (Nat.blt m (lim k)) (.ofNat m) (wr k (.ofNat m))) (fun m => wr k (.negSucc m)) a
theorem wrI_eq (k : IntKind) (a : Int) : wrI k a = wr k a := by
  cases a with
  | ofNat m =>
    show bo (Nat.blt m (lim k)) _ _ = _
    have : lim k = ikLim k := by cases k <;> rfl
    cases hb : Nat.blt m (lim k) with
    | false => rfl
    | true => rw [bo_true]; unfold wr; simp only; rw [← this, hb, bo_true]
  | negSucc m => rfl
noncomputable def addI (a b : Int) : Int := @Int.rec (fun _ => Int → Int) (fun m b => @Int.rec (fun _ => Int) (fun n => .ofNat (Nat.add m n)) (fun n => Int.add (.ofNat m) (.negSucc n)) b) (fun m b => Int.add (.negSucc m) b) a b
theorem addI_eq (a b : Int) : addI a b = Int.add a b := by cases a <;> cases b <;> rfl
noncomputable def subI (a b : Int) : Int := @Int.rec (fun _ => Int → Int) (fun m b => @Int.rec (fun _ => Int) (fun n => bo (Nat.ble n m) (.ofNat (Nat.sub m n)) (Int.sub (.ofNat m) (.ofNat n))) (fun n => Int.sub (.ofNat m) (.negSucc n)) b) (fun m b => Int.sub (.negSucc m) b) a b
theorem subI_eq (a b : Int) : subI a b = Int.sub a b := by
  cases a with
  | negSucc m => rfl
  | ofNat m =>
    cases b with
    | negSucc n => rfl
    | ofNat n =>
      show bo (Nat.ble n m) _ _ = _
      cases hb : Nat.ble n m with
      | false => rfl
      | true =>
        have := Nat.le_of_ble_eq_true hb
        show ((m - n : Nat) : Int) = (m : Int) - (n : Int)
        omega
noncomputable def ltI (a b : Int) : Bool := @Int.rec (fun _ => Int → Bool) (fun m b => @Int.rec (fun _ => Bool) (fun n => Nat.blt m n) (fun _ => false) b) (fun m b => @Int.rec (fun _ => Bool) (fun _ => true) (fun n => Nat.blt n m) b) a b
theorem ltI_eq (a b : Int) : ltI a b = iLt a b := by cases a <;> cases b <;> rfl
noncomputable def eqI (a b : Int) : Bool := @Int.rec (fun _ => Int → Bool) (fun m b => @Int.rec (fun _ => Bool) (fun n => Nat.beq m n) (fun _ => false) b) (fun m b => @Int.rec (fun _ => Bool) (fun _ => false) (fun n => Nat.beq m n) b) a b
theorem eqI_eq (a b : Int) : eqI a b = iEq a b := by cases a <;> cases b <;> rfl
noncomputable def notR (b : Bool) : Bool := bo b false true
theorem notR_eq (b : Bool) : notR b = !b := by cases b <;> rfl
abbrev IopF := IntKind → Int → Int → Option Value
noncomputable def opI (op : BinOp) : IopF :=
  @BinOp.rec (fun _ => IopF) (fun k a b => some (.int k (wrI k (addI a b)))) (fun k a b => some (.int k (wrI k (subI a b)))) iMul iQuo iRem iAnd iOr iXor (fun _ _ _ => none) (fun _ _ _ => none) (fun _ _ _ => none)
    (fun _ a b => some (.bool (eqI a b))) (fun _ a b => some (.bool (notR (eqI a b)))) (fun _ a b => some (.bool (ltI a b))) (fun _ a b => some (.bool (notR (ltI b a)))) (fun _ a b => some (.bool (ltI b a))) (fun _ a b => some (.bool (notR (ltI a b)))) op
theorem opI_eq (op : BinOp) (k : IntKind) (a b : Int) : opI op k a b = intOp op k a b := by
  cases op
  case add => show some (Value.int k (wrI k (addI a b))) = _; rw [wrI_eq, addI_eq]; rfl
  case sub => show some (Value.int k (wrI k (subI a b))) = _; rw [wrI_eq, subI_eq]; rfl
  case eql => show some (Value.bool (eqI a b)) = _; rw [eqI_eq]; rfl
  case neq => show some (Value.bool (notR (eqI a b))) = _; rw [notR_eq, eqI_eq]; rfl
  case lss => show some (Value.bool (ltI a b)) = _; rw [ltI_eq]; rfl
  case leq => show some (Value.bool (notR (ltI b a))) = _; rw [notR_eq, ltI_eq]; rfl
  case gtr => show some (Value.bool (ltI b a)) = _; rw [ltI_eq]; rfl
  case geq => show some (Value.bool (notR (ltI a b))) = _; rw [notR_eq, ltI_eq]; rfl
  all_goals rfl
noncomputable def vBinI (v : Value) : IntKind → Int → OR → Hp → Nat → BinOp → OR :=
  @Value.rec (fun _ => IntKind → Int → OR → Hp → Nat → BinOp → OR) (fun _ => Unit) (fun _ => Unit)
    (fun _ _ _ d _ _ _ => d)
    (fun k n k1 a1 d h nx op => bo (Nat.beq (knd k1) (knd k)) (oo (opI op k1 a1 n) d (fun v => .ok v h nx)) d)
    (fun _ _ _ _ d _ _ _ => d)
    (fun _ _ _ _ _ d _ _ _ => d)
    (fun _ _ _ d _ _ _ => d)
    (fun _ _ _ d _ _ _ => d)
    (fun _ _ _ _ _ d _ _ _ => d)
    (fun _ _ _ d _ _ _ => d)
    (fun _ _ _ d _ _ _ => d)
    (fun _ _ _ _ _ _ _ d _ _ _ => d)
    (fun _ _ d _ _ _ => d)
    (fun _ _ _ _ _ d _ _ _ => d)
    (fun _ _ d _ _ _ => d)
    (fun _ _ _ _ d _ _ _ => d)
    (fun _ _ _ _ d _ _ _ => d)
    (fun _ _ => ()) () (fun _ _ _ _ => ()) v
noncomputable def vBin (v : Value) : Value → OR → Hp → Nat → BinOp → OR :=
  @Value.rec (fun _ => Value → OR → Hp → Nat → BinOp → OR) (fun _ => Unit) (fun _ => Unit)
    (fun _ _ d _ _ _ => d)
    (fun k n y d h nx op => vBinI y k n d h nx op)
    (fun _ _ _ d _ _ _ => d)
    (fun _ _ _ _ d _ _ _ => d)
    (fun _ _ d _ _ _ => d)
    (fun _ _ d _ _ _ => d)
    (fun _ _ _ _ d _ _ _ => d)
    (fun _ _ d _ _ _ => d)
    (fun _ _ d _ _ _ => d)
    (fun _ _ _ _ _ _ d _ _ _ => d)
    (fun _ d _ _ _ => d)
    (fun _ _ _ _ d _ _ _ => d)
    (fun _ d _ _ _ => d)
    (fun _ _ _ d _ _ _ => d)
    (fun _ _ _ d _ _ _ => d)
    (fun _ _ => ()) () (fun _ _ _ _ => ()) v
noncomputable def fBin (P : Program) (G : Nat) (e : Tb Value) (h : Hp) (nx : Nat) (o : Oper) (op : BinOp) (t : TypeId) (a b : Option Value) : OR :=
  oo a .bad (fun a => oo b .bad (fun b => vBin a b (binV a b P G e h nx o op t) h nx op))
theorem fBin_eq (P : Program) (G : Nat) (e : Tb Value) (h : Hp) (nx : Nat) (o : Oper) (op : BinOp) (t : TypeId) (a b : Option Value) : fBin P G e h nx o op t a b = mBin P G e h nx o op t a b := by
  cases a with
  | none => rfl
  | some a =>
    cases b with
    | none => rfl
    | some b =>
      cases a with
      | int k n =>
        cases b with
        | int k' n' =>
          show bo (Nat.beq (knd k) (knd k')) (oo (opI op k n n') _ _) _ = binInt k n (.int k' n') P G e h nx o op t
          have e1 : knd k = ikn k := by cases k <;> rfl
          have e2 : knd k' = ikn k' := by cases k' <;> rfl
          rw [e1, e2, opI_eq]
          unfold binV binInt
          simp only
          cases hb : Nat.beq (ikn k) (ikn k') with
          | false => rfl
          | true =>
            rw [bo_true, bo_true]
            cases hq : intOp op k n n' with
            | none => rfl
            | some v => rfl
        | _ => rfl
      | _ => rfl
noncomputable def fBuiltin (P : Program) (G : Nat) (e : Tb Value) (h : Hp) (nx : Nat) (o : Oper) (b : Builtin) (args : List Operand) (ts : List TypeId) : OR :=
  match b, args, ts with
  | .len, [x], [t] => fLen P h nx t (evO G e x)
  | b, args, ts => mBuiltin P G e h nx o b args ts
theorem fBuiltin_eq (P : Program) (G : Nat) (e : Tb Value) (h : Hp) (nx : Nat) (o : Oper) (b : Builtin) (args : List Operand) (ts : List TypeId) : fBuiltin P G e h nx o b args ts = mBuiltin P G e h nx o b args ts := by
  unfold fBuiltin
  split
  · rw [fLen_eq]; rfl
  · rfl
noncomputable def g_load (t : TypeId) (a : Operand) : BrF := fun P G _ e h nx _ => fLoad P h nx t (evO G e a)
noncomputable def g_store (t : TypeId) (a x : Operand) : BrF := fun P G _ e h nx _ => fStore P h nx t (evO G e a) (evO G e x)
noncomputable def g_nilCheck (x : Operand) : BrF := fun _ G _ e h nx _ => fNil h nx (evO G e x)
noncomputable def g_binOp (op : BinOp) (t : TypeId) (x y : Operand) (_ : TypeId) : BrF := fun P G _ e h nx o => fBin P G e h nx o op t (evO G e x) (evO G e y)
noncomputable def g_fieldAddr (s : TypeId) (x : Operand) (f : Nat) : BrF := fun P G _ e h nx _ => fFieldAddr P h nx s f (evO G e x)
noncomputable def g_field (s : TypeId) (x : Operand) (f : Nat) : BrF := fun P G _ e h nx _ => fField P h nx s f (evO G e x)
noncomputable def g_indexAddr (t : TypeId) (x i : Operand) : BrF := fun P G _ e h nx _ => fIndexAddr P h nx t (evO G e x) (evO G e i)
noncomputable def g_extract (x : Operand) (i : Nat) : BrF := fun _ G _ e h nx _ => fExtract h nx i (evO G e x)
noncomputable def g_call (c : Call) : BrF := fun P G call e h nx o => match c.callee with
    | .value f => fCall P call h nx (evO G e f) (evL G e c.args.toList)
    | .builtin b => fBuiltin P G e h nx o b c.args.toList c.argTypes.toList
    | _ => .bad
structure BrB where
  f : BrF
noncomputable def brBox (o : Oper) : BrB :=
  @Op.rec (fun _ => BrB) (fun x0 => ⟨b_move x0⟩) (fun x0 => ⟨b_assign x0⟩) (fun x0 x1 x2 => ⟨b_pick x0 x1 x2⟩) (fun x0 => ⟨b_alloc x0⟩) (fun x0 x1 => ⟨b_box x0 x1⟩) (fun x0 x1 => ⟨b_build x0 x1⟩) (fun x0 x1 x2 => ⟨b_buildSlice x0 x1 x2⟩) (fun x0 x1 x2 x3 => ⟨b_insert x0 x1 x2 x3⟩) (fun x0 x1 => ⟨g_load x0 x1⟩) (fun x0 x1 x2 => ⟨g_store x0 x1 x2⟩) (fun _ => ⟨bBad⟩) (fun _ => ⟨bBad⟩) (fun x0 => ⟨g_nilCheck x0⟩) (fun x0 x1 x2 x3 x4 => ⟨g_binOp x0 x1 x2 x3 x4⟩) (fun x0 x1 x2 => ⟨b_unOp x0 x1 x2⟩) (fun x0 x1 x2 => ⟨b_convert x0 x1 x2⟩) (fun x0 x1 => ⟨b_sliceToArrayPointer x0 x1⟩) (fun x0 x1 => ⟨b_makeInterface x0 x1⟩) (fun x0 x1 x2 => ⟨b_makeFunc x0 x1 x2⟩) (fun x0 x1 => ⟨b_makeMap x0 x1⟩) (fun _ _ => ⟨bBad⟩) (fun x0 x1 x2 => ⟨b_makeSlice x0 x1 x2⟩) (fun x0 x1 x2 x3 x4 => ⟨b_slice x0 x1 x2 x3 x4⟩) (fun x0 x1 x2 => ⟨g_fieldAddr x0 x1 x2⟩) (fun x0 x1 x2 => ⟨g_field x0 x1 x2⟩) (fun x0 x1 x2 => ⟨g_indexAddr x0 x1 x2⟩) (fun x0 x1 x2 => ⟨b_index x0 x1 x2⟩) (fun x0 x1 x2 x3 => ⟨b_lookup x0 x1 x2 x3⟩) (fun x0 x1 x2 x3 => ⟨b_mapUpdate x0 x1 x2 x3⟩) (fun x0 x1 x2 => ⟨b_mapEntry x0 x1 x2⟩) (fun x0 x1 x2 x3 => ⟨b_entryStore x0 x1 x2 x3⟩) (fun x0 x1 => ⟨b_range x0 x1⟩) (fun x0 x1 => ⟨b_next x0 x1⟩) (fun x0 => ⟨b_entry x0⟩) (fun _ _ _ _ => ⟨bBad⟩) (fun x0 x1 => ⟨g_extract x0 x1⟩) (fun x0 => ⟨g_call x0⟩) (fun _ => ⟨bBad⟩) (fun _ => ⟨bBad⟩) (fun _ => ⟨bBad⟩) (fun _ _ => ⟨bBad⟩) (fun _ _ _ => ⟨bBad⟩) (fun _ _ => ⟨bBad⟩) o.op
/-- One operation. -/
noncomputable def mOp (P : Program) (G : Nat) (call : CallF) (e : Tb Value) (h : Hp) (nx : Nat) (o : Oper) : OR :=
  @BrB.rec (fun _ => OR) (fun f => f P G call e h nx o) (brBox o)
theorem mOp_eq (P : Program) (G : Nat) (call : CallF) (e : Tb Value) (h : Hp) (nx : Nat) (o : Oper) : mOp P G call e h nx o = sOp P G call e h nx o := by
  unfold mOp brBox sOp
  cases o.op
  case load t a => exact fLoad_eq P h nx t _
  case store t a x => exact fStore_eq P h nx t _ _
  case nilCheck x => exact fNil_eq h nx _
  case binOp op t x y u => exact fBin_eq P G e h nx o op t _ _
  case fieldAddr s x f => exact fFieldAddr_eq P h nx s f _
  case field s x f => exact fField_eq P h nx s f _
  case indexAddr t x i => exact fIndexAddr_eq P h nx t _ _
  case extract x i => exact fExtract_eq h nx i _
  case call c =>
    show (match c.callee with
      | .value f => fCall P call h nx (evO G e f) (evL G e c.args.toList)
      | .builtin b => fBuiltin P G e h nx o b c.args.toList c.argTypes.toList
      | _ => .bad) = (match c.callee with
      | .value f => mCall P call h nx (evO G e f) (evL G e c.args.toList)
      | .builtin b => mBuiltin P G e h nx o b c.args.toList c.argTypes.toList
      | _ => .bad)
    cases c.callee with
    | value f => exact fCall_eq P call h nx _ _
    | builtin b => exact fBuiltin_eq P G e h nx o b _ _
    | invoke r m => rfl
  all_goals rfl

noncomputable def mPut (n : Nat) (e : Tb Value) (d : Option Tmp) (v : Value) : Option (Tb Value) :=
  oo d (some e) (fun d => bo (Nat.blt d n) (valR v (fun v => putS e d v some)) none)
/-- Is it run? -/
noncomputable def mGuard (ops : Array Oper) (e : Tb Value) (g : Nat × Bool) : Option Bool :=
  match (ops[g.1]?).bind (·.dst) with
  | some d => match e.get d with
    | some (.bool c) => some (c == g.2)
    | some (.tuple ⟨[]⟩) => some false
    | _ => none
  | none => none
abbrev ContF := Tb Value → Hp → Nat → Out
noncomputable def mStep (P : Program) (G n : Nat) (call : CallF) (o : Oper) (e : Tb Value) (h : Hp) (nx : Nat) (k : ContF) : Out :=
  @OR.rec (fun _ => Out) .bad (fun v h' nx' => oo (mPut n e o.dst v) .bad (fun e' => k e' h' nx')) (mOp P G call e h nx o)
noncomputable def mSkip (n : Nat) (o : Oper) (e : Tb Value) (h : Hp) (nx : Nat) (k : ContF) : Out := oo (mPut n e o.dst undef) .bad (fun e' => k e' h nx)
noncomputable def mGrd (P : Program) (G n : Nat) (call : CallF) (ops : Array Oper) (o : Oper) (e : Tb Value) (h : Hp) (nx : Nat) (k : ContF) (g : Nat × Bool) : Out :=
  oo (mGuard ops e g) .bad (fun b => bo b (mStep P G n call o e h nx k) (mSkip n o e h nx k))
noncomputable def mOps (P : Program) (G n : Nat) (call : CallF) (ops : Array Oper) (l : List Oper) : ContF :=
  @List.rec Oper (fun _ => ContF) (fun e h nx => .nrm e h nx) (fun o _ ih e h nx => oo o.guard (mStep P G n call o e h nx ih) (mGrd P G n call ops o e h nx ih)) l
noncomputable def mLoop (f : ContF) (fuel : Nat) : ContF :=
  @Nat.rec (fun _ => ContF) (fun _ _ _ => .bad) (fun _ ih e h nx => @Out.rec (fun _ => Out) .bad ih .ext .ret (f e h nx)) fuel
end Go.Proofs.YthdlljlcffokbaaDoor
