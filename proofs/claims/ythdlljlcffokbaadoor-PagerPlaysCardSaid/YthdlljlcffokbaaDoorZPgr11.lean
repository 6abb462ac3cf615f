/- A pager reads a page. No condition. -/
import Derived.Test.YthdlljlcffokbaaDoorZb4
import Derived.Test.YthdlljlcffokbaaDoorZPgPlain2
import Derived.Test.YthdlljlcffokbaaDoorZb2
namespace Go.Proofs.YthdlljlcffokbaaDoor
open Go.RowKit

/-- The first k sectors of page n, as they are read. -/
def DS.upto (s : DS) (n : Nat) : Nat → List UInt8
  | 0 => []
  | k + 1 => s.upto n k ++ (s.shows[n * 4 + k]?).getD []
def DS.page (s : DS) (n : Nat) : List UInt8 := s.upto n 4
theorem DS.upto_len {s : DS} (h : s.Wf) {n : Nat} : ∀ k, k ≤ 4 → n * 4 + 4 ≤ s.lasts.length → (s.upto n k).length = 128 * k
  | 0, _, _ => rfl
  | k + 1, hk, hn => by
    have ih := DS.upto_len h k (by omega) hn
    have hsl := h.sl
    have hlt : n * 4 + k < s.shows.length := by omega
    show (s.upto n k ++ _).length = _
    rw [List.length_append, ih, List.getElem?_eq_getElem hlt, Option.getD_some, h.ash _ (List.getElem_mem hlt)]
    omega
open Classical in
/-- What a page says: an errno, and bytes. -/
noncomputable def decA (n : Nat) (p : List UInt8) : Int × List UInt8 := if DecOk n p then (0, (p.drop 10).take (longOf p)) else (30, [])
theorem decA_ok {n : Nat} {p : List UInt8} (h : DecOk n p) : decA n p = (0, (p.drop 10).take (longOf p)) := by unfold decA; rw [if_pos h]
theorem decA_no {n : Nat} {p : List UInt8} (h : ¬ DecOk n p) : decA n p = (30, []) := by unfold decA; rw [if_neg h]
/-- What reading comes to. -/
def RdAns (w w' : World) (e : Ending) (r : Int × List UInt8) : Prop := ∃ v, e = .returned (.tuple #[v, .int .i64 r.1]) ∧ w'.ownsRow w.heap.size 5 1 v r.2.length (bvs r.2) ∧ Fr0 w w'
theorem decode_any (n b off cap : Nat) (p : List UInt8) (w : World) (hn : n ≤ 16383) (hp : p.length = 512) (hcap : 512 ≤ cap) (hr : Rd w (some ⟨b, off, none⟩) 512 (bvs p)) :
    Calls Tryd.prog 64 #[.int .i64 (n : Int), .slice (some ⟨b, off, none⟩) 512 cap] w fun e w' => RdAns w w' e (decA n p) := by
  have no : ∀ {e w'}, e = .returned (.tuple #[.slice none 0 0, .int .i64 30]) ∧ Fr0 w w' → ¬ DecOk n p → RdAns w w' e (decA n p) := fun h hd => by
    rw [decA_no hd]; exact ⟨_, h.1, World.ownsRow_nil _ _ _ _, h.2⟩
  by_cases h1 : 502 < longOf p
  · exact (decode_long n b off cap p w hn hp hcap hr h1).mono fun e w' h => no h (fun hd => by have := hd.1; omega)
  by_cases h2 : be8 (pageSum n (p.drop 8)) ++ p.drop 8 = p
  case neg => exact (decode_sum n b off cap p w hn hp hcap hr ⟨by omega, h2⟩).mono fun e w' h => no h (fun hd => h2 hd.2.1)
  by_cases h3 : ∀ c ∈ p.drop (10 + longOf p), c = 0
  case neg => exact (decode_tail n b off cap p w hn hp hcap hr ⟨by omega, h2, h3⟩).mono fun e w' h => no h (fun hd => h3 hd.2.2)
  refine (decode_ok n b off cap p w hn hp hcap hr ⟨by omega, h2, h3⟩).mono fun e w' ⟨⟨v, he, ho⟩, hf⟩ => ?_
  rw [decA_ok ⟨by omega, h2, h3⟩]
  refine ⟨v, he, ?_, hf⟩
  have hl : ((p.drop 10).take (longOf p)).length = longOf p := by rw [List.length_take, List.length_drop, hp]; omega
  rw [hl]; exact ho
section
variable {w : World} {Q : PL} {p : PS} {s : DS}
set_option maxHeartbeats 8000000 in
theorem pread_ok (h : PgAt w Q p s) (hd : s.dead = false) (n : Nat) (hn : n * 4 + 4 ≤ s.lasts.length) :
    Calls Tryd.prog 55 #[.pointer (some ⟨Q.gp, 0, none⟩), .int .i64 (n : Int)] w fun e w' => RdAns w w' e (decA n (s.page n)) := by
  have hle := h.dk.wf.le
  have hsl := h.dk.wf.sl
  refine sx_enter (vs := [_, _]) Tryd.func55 rfl Tryd.ntmps55 rfl ?_
  refine sx_seq ?_
  refine sx_region ?_
  iterate 2 refine sxl_y (wn_none rfl) rfl rfl (yp rfl) ?_
  refine sxl_nil ?_
  refine qx_seq ?_
  refine sx_seq ?_
  refine sx_region ?_
  refine sxl_y (wn_none rfl) rfl rfl (yp rfl) ?_
  refine sxl_nil ?_
  refine qx_seq ?_
  refine sx_seq ?_
  refine sx_seq ?_
  refine sx_region ?_
  refine sxl_y (wn_none rfl) rfl rfl (yp rfl) ?_
  refine sxl_nil ?_
  refine qx_seq ?_
  refine sx_block ?_
  refine sx_loop (fun e wr m => ∃ (k : Nat) (v : Value), e = [(10, .int .i64 (k : Int)), (6, v), (0, .pointer (some ⟨Q.gp, 0, none⟩)), (1, .int .i64 (n : Int))] ∧ k ≤ 4 ∧ wr.ownsRow w.heap.size 5 1 v (128 * k) (bvs (s.upto n k)) ∧ Fr0 w wr ∧ m = 4 - k)
    ⟨0, _, rfl, Nat.zero_le _, World.ownsRow_nil _ _ _ _, Fr.refl, rfl⟩ ⟨rfl, rfl, rfl, rfl, trivial⟩ ?_
  rintro _ wr _ ⟨k, v, rfl, hk, hown, hfr, rfl⟩
  have hpr := h.fr0 hfr
  have c0 := hpr.c0
  by_cases hlt : k < 4
  · obtain ⟨b, hb⟩ : ∃ b, s.shows[n * 4 + k]? = some b := ⟨_, List.getElem?_eq_getElem (by omega)⟩
    have hbl : b.length = 128 := h.dk.wf.ash _ (List.mem_of_getElem? hb)
    have hread := read_ok (n * 4 + k) wr Q.L s b hpr.dk hd hb
    rw [show ((n * 4 + k : Nat) : Int) = (n : Int) * 4 + (k : Int) from by omega] at hread
    refine sx_seq ?_
    refine sx_region ?_
    refine sxl_y (wn_none rfl) rfl rfl (y_lss_t rfl rfl rfl (by omega)) ?_
    refine sxl_nil ?_
    refine qx_seq ?_
    refine sx_seq ?_
    refine sx_true rfl ?_
    refine sx_skip ?_
    refine qx_seq ?_
    refine sx_seq ?_
    refine sx_block ?_
    refine sx_seq ?_
    refine sx_region ?_
    iterate 2 refine sxl_y (wn_none rfl) rfl rfl (yp rfl) ?_
    refine sxl_nil ?_
    refine qx_seq ?_
    refine sx_seq ?_
    refine sx_region ?_
    iterate 3 refine sxl_y (wn_none rfl) rfl rfl (yp rfl) ?_
    refine sxl_y (wn_none rfl) rfl rfl (y_load rfl rfl (sc rfl) (by assumption)) ?_
    refine sxl_y (wn_none rfl) rfl rfl (yp rfl) ?_
    refine sxl_y (wn_none rfl) rfl rfl (y_mul rfl rfl rfl (by omega)) ?_
    refine sxl_y (wn_none rfl) rfl rfl (yp rfl) ?_
    refine sxl_y (wn_none rfl) rfl rfl (y_add rfl rfl rfl (by omega)) ?_
    refine sxl_call (some 22) (wn_none rfl) rfl rfl (yc_call rfl rfl Tryd.call63) hread ?_
    rintro _ w2 ⟨⟨u, rfl, hu⟩, hf2⟩
    refine ⟨_, rfl, ?_⟩
    obtain ⟨A2, c2, rfl, _, _, hr2, _⟩ := own_form hu
    have hz := hfr.size
    have hz2 := hf2.size
    iterate 5 refine sxl_y (wn_none rfl) rfl rfl (yp rfl) ?_
    refine sxl_nil ?_
    refine qx_seq ?_
    refine sx_seq ?_
    refine sx_seq ?_
    refine sx_region ?_
    refine sxl_y (wn_none rfl) rfl rfl (yp rfl) ?_
    refine sxl_y (wn_none rfl) rfl rfl (y_neq_f rfl rfl rfl (by omega)) ?_
    refine sxl_nil ?_
    refine qx_seq ?_
    refine sx_false rfl ?_
    refine sx_skip ?_
    refine qx_seq ?_
    refine sx_region ?_
    iterate 2 refine sxl_y (wn_none rfl) rfl rfl (yp rfl) ?_
    refine sxl_does (some 30) (wn_none rfl) rfl rfl (fun ρ hρ => does_append (.tmp 28) (.tmp 29) 39 rfl w.heap.size 5 (.int .u8 0) 1 Tryd.underlying39 info_u8 rfl v (128 * k) (bvs (s.upto n k)) (hρ _ _ rfl) (own_fr hown hf2 (fun _ _ hh => hh)) A2 128 c2 (bvs b) (hρ _ _ rfl) hr2 (bvs_one b) (by unfold maxLen; omega) (by omega) (by omega)) ?_
    rintro v5 w5 ⟨ho5, hg5, _⟩
    have hf5 : Fr0 w w5 := (hfr.trans hf2).step (Fr.refl.grown (S := fun b => w.heap.size ≤ b) hg5 (fun k hk _ => (hown.lt k hk).1)) (fun b hb e => by omega)
    refine sxl_y (wn_none rfl) rfl rfl (yp rfl) ?_
    refine sxl_nil ?_
    refine qx_block_normal ?_
    refine qx_seq ?_
    refine sx_region ?_
    refine sxl_y (wn_none rfl) rfl rfl (y_add rfl rfl rfl (by omega)) ?_
    refine sxl_y (wn_none rfl) rfl rfl (yp rfl) ?_
    refine sxl_nil ?_
    exact qx_again [(10, .int .i64 ((k + 1 : Nat) : Int)), (6, v5), (0, .pointer (some ⟨Q.gp, 0, none⟩)), (1, .int .i64 (n : Int))] (4 - (k + 1)) ⟨k + 1, v5, rfl, hlt, by
      show w5.ownsRow _ _ _ _ _ (bvs (s.upto n k ++ (s.shows[n * 4 + k]?).getD []))
      rw [hb, Option.getD_some, bvs_append]
      exact ho5, hf5, rfl⟩ (by omega) ⟨rfl, rfl, rfl, rfl, trivial⟩
  · obtain rfl : k = 4 := by omega
    have hlp : (s.page n).length = 512 := DS.upto_len h.dk.wf 4 (by decide) hn
    obtain ⟨g, cp, rest, rfl, hg, hcp, hbp, _⟩ := own_blk hown (by decide)
    have hrd : Rd wr (some ⟨g, 0, none⟩) 512 (bvs (s.page n)) := by
      obtain ⟨_, _, e, _, _, hr, _⟩ := own_form hown
      injection e with e _ _
      rw [e]; exact hr
    refine sx_seq ?_
    refine sx_region ?_
    refine sxl_y (wn_none rfl) rfl rfl (y_lss_f rfl rfl rfl (by omega)) ?_
    refine sxl_nil ?_
    refine qx_seq ?_
    refine sx_seq ?_
    refine sx_false rfl ?_
    refine sx_exit ?_
    refine qx_then_exit ?_
    refine qx_then_exit ?_
    refine qx_block_hit ?_
    refine qx_seq ?_
    refine sx_seq ?_
    refine sx_region ?_
    iterate 2 refine sxl_y (wn_none rfl) rfl rfl (yp rfl) ?_
    refine sxl_call (some 34) (by first | exact wn_none rfl | exact wn_on rfl rfl rfl) rfl rfl (yc_call rfl rfl Tryd.call64) (decode_any n g 0 cp (s.page n) wr (by omega) hlp hcp hrd) ?_
    rintro _ w6 ⟨v6, rfl, ho6, hf6⟩
    refine ⟨_, rfl, ?_⟩
    iterate 4 refine sxl_y (wn_none rfl) rfl rfl (yp rfl) ?_
    refine sxl_nil ?_
    refine qx_seq ?_
    refine sx_ret ?_
    refine qx_ret2 rfl rfl rfl ?_
    exact ⟨v6, rfl, own_base ho6 hfr.size, hfr.trans hf6⟩
/-- What Read answers. -/
noncomputable def PS.readA (p : PS) (s : DS) (n : Int) : Int × List UInt8 :=
  if (p.at_ s n).2 ≠ 0 then ((p.at_ s n).2, []) else if p.st n = 0 then (250, []) else if p.st n = 2 then (5, []) else decA n.toNat (s.page n.toNat)
set_option maxHeartbeats 4000000 in
theorem pRead_any (h : PgAt w Q p s) (n : Int) (hpg : p.pages * 4 ≤ s.lasts.length) :
    Calls Tryd.prog 30 #[.pointer (some ⟨Q.gp, 0, none⟩), .int .i64 n] w fun e w' => RdAns w w' e (p.readA s n) := by
  have hat := at_any h n
  unfold PS.readA
  by_cases ha : (p.at_ s n).2 = 0
  case neg =>
    rw [if_pos ha]
    refine sx_enter (vs := [_, _]) Tryd.func30 rfl Tryd.ntmps30 rfl ?_
    refine sx_seq ?_
    refine sx_region ?_
    iterate 2 refine sxl_y (wn_none rfl) rfl rfl (yp rfl) ?_
    refine sxl_nil ?_
    refine qx_seq ?_
    refine sx_seq ?_
    refine sx_region ?_
    iterate 2 refine sxl_y (wn_none rfl) rfl rfl (yp rfl) ?_
    refine sxl_pure (wn_none rfl) rfl rfl (yc_call rfl rfl Tryd.call37) (hat) ?_
    iterate 5 refine sxl_y (wn_none rfl) rfl rfl (yp rfl) ?_
    refine sxl_nil ?_
    refine qx_seq ?_
    refine sx_seq ?_
    refine sx_block ?_
    refine sx_seq ?_
    refine sx_region ?_
    refine sxl_y (wn_none rfl) rfl rfl (yp rfl) ?_
    refine sxl_y (wn_none rfl) rfl rfl (y_neq_t rfl rfl rfl (by omega)) ?_
    refine sxl_y (wn_none rfl) rfl rfl (yp rfl) ?_
    refine sxl_nil ?_
    refine qx_seq ?_
    refine sx_true rfl ?_
    refine sx_seq ?_
    refine sx_region ?_
    iterate 3 refine sxl_y (wn_none rfl) rfl rfl (yp rfl) ?_
    refine sxl_nil ?_
    refine qx_seq ?_
    refine sx_ret ?_
    refine qx_block_ret ?_
    refine qx_then_ret ?_
    refine qx_ret2 rfl rfl rfl ?_
    exact ⟨_, rfl, World.ownsRow_nil _ _ _ _, Fr.refl⟩
  rw [if_neg (fun e => e ha)]
  obtain ⟨ea, hg, h2, h3⟩ := at_ok ha
  rw [ea] at hat
  have hd : s.dead = false := by unfold PS.gone at hg; simp at hg; exact hg.2
  by_cases h0 : p.st n = 0
  · rw [if_pos h0]
    refine sx_enter (vs := [_, _]) Tryd.func30 rfl Tryd.ntmps30 rfl ?_
    refine sx_seq ?_
    refine sx_region ?_
    iterate 2 refine sxl_y (wn_none rfl) rfl rfl (yp rfl) ?_
    refine sxl_nil ?_
    refine qx_seq ?_
    refine sx_seq ?_
    refine sx_region ?_
    iterate 2 refine sxl_y (wn_none rfl) rfl rfl (yp rfl) ?_
    refine sxl_pure (wn_none rfl) rfl rfl (yc_call rfl rfl Tryd.call37) (hat) ?_
    iterate 5 refine sxl_y (wn_none rfl) rfl rfl (yp rfl) ?_
    refine sxl_nil ?_
    refine qx_seq ?_
    refine sx_seq ?_
    refine sx_block ?_
    refine sx_seq ?_
    refine sx_region ?_
    refine sxl_y (wn_none rfl) rfl rfl (yp rfl) ?_
    refine sxl_y (wn_none rfl) rfl rfl (y_neq_f rfl rfl rfl (by omega)) ?_
    refine sxl_y (wn_none rfl) rfl rfl (yp rfl) ?_
    refine sxl_nil ?_
    refine qx_seq ?_
    refine sx_false rfl ?_
    refine sx_seq ?_
    refine sx_region ?_
    refine sxl_y (wn_none rfl) rfl rfl (yp rfl) ?_
    refine sxl_y (wn_none rfl) rfl rfl (y_eql_t rfl rfl rfl (by omega)) ?_
    refine sxl_y (wn_none rfl) rfl rfl (yp rfl) ?_
    refine sxl_nil ?_
    refine qx_seq ?_
    refine sx_true rfl ?_
    refine sx_seq ?_
    refine sx_region ?_
    iterate 2 refine sxl_y (wn_none rfl) rfl rfl (yp rfl) ?_
    refine sxl_nil ?_
    refine qx_seq ?_
    refine sx_ret ?_
    refine qx_block_ret ?_
    refine qx_then_ret ?_
    refine qx_ret2 rfl rfl rfl ?_
    exact ⟨_, rfl, World.ownsRow_nil _ _ _ _, Fr.refl⟩
  rw [if_neg h0]
  by_cases ht : p.st n = 2
  · rw [if_pos ht]
    refine sx_enter (vs := [_, _]) Tryd.func30 rfl Tryd.ntmps30 rfl ?_
    refine sx_seq ?_
    refine sx_region ?_
    iterate 2 refine sxl_y (wn_none rfl) rfl rfl (yp rfl) ?_
    refine sxl_nil ?_
    refine qx_seq ?_
    refine sx_seq ?_
    refine sx_region ?_
    iterate 2 refine sxl_y (wn_none rfl) rfl rfl (yp rfl) ?_
    refine sxl_pure (wn_none rfl) rfl rfl (yc_call rfl rfl Tryd.call37) (hat) ?_
    iterate 5 refine sxl_y (wn_none rfl) rfl rfl (yp rfl) ?_
    refine sxl_nil ?_
    refine qx_seq ?_
    refine sx_seq ?_
    refine sx_block ?_
    refine sx_seq ?_
    refine sx_region ?_
    refine sxl_y (wn_none rfl) rfl rfl (yp rfl) ?_
    refine sxl_y (wn_none rfl) rfl rfl (y_neq_f rfl rfl rfl (by omega)) ?_
    refine sxl_y (wn_none rfl) rfl rfl (yp rfl) ?_
    refine sxl_nil ?_
    refine qx_seq ?_
    refine sx_false rfl ?_
    refine sx_seq ?_
    refine sx_region ?_
    refine sxl_y (wn_none rfl) rfl rfl (yp rfl) ?_
    refine sxl_y (wn_none rfl) rfl rfl (y_eql_f rfl rfl rfl (by omega)) ?_
    refine sxl_y (wn_none rfl) rfl rfl (yp rfl) ?_
    refine sxl_nil ?_
    refine qx_seq ?_
    refine sx_false rfl ?_
    refine sx_seq ?_
    refine sx_region ?_
    refine sxl_y (wn_none rfl) rfl rfl (yp rfl) ?_
    refine sxl_y (wn_none rfl) rfl rfl (y_eql_t rfl rfl rfl (by omega)) ?_
    refine sxl_y (wn_none rfl) rfl rfl (yp rfl) ?_
    refine sxl_nil ?_
    refine qx_seq ?_
    refine sx_true rfl ?_
    refine sx_seq ?_
    refine sx_region ?_
    iterate 2 refine sxl_y (wn_none rfl) rfl rfl (yp rfl) ?_
    refine sxl_nil ?_
    refine qx_seq ?_
    refine sx_ret ?_
    refine qx_block_ret ?_
    refine qx_then_ret ?_
    refine qx_ret2 rfl rfl rfl ?_
    exact ⟨_, rfl, World.ownsRow_nil _ _ _ _, Fr.refl⟩
  rw [if_neg ht]
  obtain ⟨m, rfl⟩ : ∃ m : Nat, n = (m : Int) := ⟨n.toNat, by omega⟩
  rw [Int.toNat_natCast]
  refine sx_enter (vs := [_, _]) Tryd.func30 rfl Tryd.ntmps30 rfl ?_
  refine sx_seq ?_
  refine sx_region ?_
  iterate 2 refine sxl_y (wn_none rfl) rfl rfl (yp rfl) ?_
  refine sxl_nil ?_
  refine qx_seq ?_
  refine sx_seq ?_
  refine sx_region ?_
  iterate 2 refine sxl_y (wn_none rfl) rfl rfl (yp rfl) ?_
  refine sxl_pure (wn_none rfl) rfl rfl (yc_call rfl rfl Tryd.call37) (hat) ?_
  iterate 5 refine sxl_y (wn_none rfl) rfl rfl (yp rfl) ?_
  refine sxl_nil ?_
  refine qx_seq ?_
  refine sx_seq ?_
  refine sx_block ?_
  refine sx_seq ?_
  refine sx_region ?_
  refine sxl_y (wn_none rfl) rfl rfl (yp rfl) ?_
  refine sxl_y (wn_none rfl) rfl rfl (y_neq_f rfl rfl rfl (by omega)) ?_
  refine sxl_y (wn_none rfl) rfl rfl (yp rfl) ?_
  refine sxl_nil ?_
  refine qx_seq ?_
  refine sx_false rfl ?_
  refine sx_seq ?_
  refine sx_region ?_
  refine sxl_y (wn_none rfl) rfl rfl (yp rfl) ?_
  refine sxl_y (wn_none rfl) rfl rfl (y_eql_f rfl rfl rfl (by omega)) ?_
  refine sxl_y (wn_none rfl) rfl rfl (yp rfl) ?_
  refine sxl_nil ?_
  refine qx_seq ?_
  refine sx_false rfl ?_
  refine sx_seq ?_
  refine sx_region ?_
  refine sxl_y (wn_none rfl) rfl rfl (yp rfl) ?_
  refine sxl_y (wn_none rfl) rfl rfl (y_eql_f rfl rfl rfl (by omega)) ?_
  refine sxl_y (wn_none rfl) rfl rfl (yp rfl) ?_
  refine sxl_nil ?_
  refine qx_seq ?_
  refine sx_false rfl ?_
  refine sx_skip ?_
  refine qx_block_normal ?_
  refine qx_seq ?_
  refine sx_seq ?_
  refine sx_region ?_
  iterate 2 refine sxl_y (wn_none rfl) rfl rfl (yp rfl) ?_
  refine sxl_call (some 26) (by first | exact wn_none rfl | exact wn_on rfl rfl rfl) rfl rfl (yc_call rfl rfl Tryd.call55) (pread_ok h hd m (by omega)) ?_
  rintro _ w6 ⟨v6, rfl, ho6, hf6⟩
  refine ⟨_, rfl, ?_⟩
  iterate 4 refine sxl_y (wn_none rfl) rfl rfl (yp rfl) ?_
  refine sxl_nil ?_
  refine qx_seq ?_
  refine sx_ret ?_
  refine qx_ret2 rfl rfl rfl ?_
  exact ⟨v6, rfl, ho6, hf6⟩
end
end Go.Proofs.YthdlljlcffokbaaDoor
