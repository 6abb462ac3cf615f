/- DiskPlays: a step; the law's helper sector. -/
import Derived.Test.YtbfeailalhddgaaRef7
import Derived.Laws.Small
namespace Go.Proofs.Ytbfeailalhddgaa
open Go.RowKit

section
variable {P : Program} {e : Env} {w : World} {o : Oper}
theorem y_min {x y : Operand} {ts : Array TypeId} {k k' : IntKind} {a b : Int} (ho : o.op = .call { callee := .builtin .min, args := #[x, y], argTypes := ts }) (hx : ev e x = some (.int k a)) (hy : ev e y = some (.int k' b)) : Y P e o w (.int k (if b < a then b else a)) := fun ρ h => by
  unfold execOp
  simp [ho, h _ _ hx, h _ _ hy, resolve, invoke, builtin, run_min_int2]
end
theorem own_take {w : World} {base : Nat} {e : TypeId} {A : Option Addr} {n c : Nat} {xs : List Value} (h : w.ownsRow base e 1 (.slice A n c) n xs) {m : Nat} (hm : m ≤ n) : w.ownsRow base e 1 (.slice A m c) m (xs.take m) := by
  have hl := h.1
  rcases h.2 with ⟨ev, h0⟩ | ⟨g, cap, cur, ev, hb, hg, hc, hmx, hs, ht⟩
  · injection ev with e1 e2 e3
    subst e1; subst e2; subst e3
    obtain rfl : m = 0 := by omega
    exact ⟨by simp, .inl ⟨rfl, rfl⟩⟩
  · injection ev with e1 e2 e3
    subst e1; subst e3
    refine ⟨by rw [List.length_take]; omega, .inr ⟨g, c, cur, rfl, hb, hg, by omega, hmx, hs, ?_⟩⟩
    rw [← ht, List.take_take, Nat.mul_one, Nat.mul_one, Nat.min_eq_left hm]
/-- A step of the law. -/
structure St where
  kind : Int
  at_ : Int
  dA : Option Addr
  dc : Nat
  data : List UInt8
  whole : Bool
  kA : Option Addr
  kc : Nat
  keep : List Bool
  torn : Int
  cut : Int
def St.cells (p : St) : List Value := [.int .i64 p.kind, .int .i64 p.at_, .slice p.dA p.data.length p.dc, .bool p.whole, .slice p.kA p.keep.length p.kc, .int .i64 p.torn, .int .i64 p.cut]
structure St.Ok (w : World) (p : St) : Prop where
  d : Rd w p.dA p.data.length (bvs p.data)
  dl : p.data.length ≤ p.dc
  dm : (p.data.length : Int) < 9223372036854775808
  k : Rd w p.kA p.keep.length (boolsV p.keep)
  kl : p.keep.length ≤ p.kc
  km : (p.keep.length : Int) < 9223372036854775808
theorem St.Ok.fr0 {w w' : World} {p : St} (h : p.Ok w) (hf : Fr0 w w') : p.Ok w' := ⟨h.d.fr0 hf, h.dl, h.dm, h.k.fr0 hf, h.kl, h.km⟩
def secOf (p : St) : List UInt8 := if p.whole then (p.data.take 300 ++ List.replicate (128 - (p.data.take 300).length) (UInt8.ofNat p.data.length)).take 128 else p.data.take 300
theorem secOf_length (p : St) : (secOf p).length ≤ 300 := by
  unfold secOf
  split
  · rw [List.length_take]; omega
  · rw [List.length_take]; omega
theorem step_size : (Try.prog.info? 54).map (·.size) = some 7 := by kernel_rfl
theorem min_nat (n : Nat) (m : Nat) : (if ((m : Int) < (n : Int)) then (m : Int) else (n : Int)) = ((min n m : Nat) : Int) := by
  split <;> omega
theorem u8_wrap_nat (n : Nat) : IntKind.u8.wrap (n : Int) = ((UInt8.ofNat n).toNat : Int) := by
  show (n : Int).emod _ = _
  rw [UInt8.toNat_ofNat']
  exact Int.natCast_emod n 256 |>.symm
set_option maxHeartbeats 4000000 in
theorem sector_ok (p : St) (w : World) (h : p.Ok w) : Calls Try.prog 33 #[.agg p.cells.toArray] w fun e w' => ∃ A c, e = .returned (.slice A (secOf p).length c) ∧ w'.ownsRow w.heap.size 5 1 (.slice A (secOf p).length c) (secOf p).length (bvs (secOf p)) ∧ Fr0 w w' := by
  refine sx_enter (vs := [_]) Try.func33 rfl Try.ntmps33 rfl ?_
  refine sx_seq ?_
  refine sx_region ?_
  refine sxl_does (some 1) (wn_none rfl) rfl rfl (fun ρ hρ => does_box 54 (.tmp 0) rfl p.cells (by rw [hρ _ _ rfl]; rfl)) ?_
  rintro _ w1 ⟨g1, rfl, hg1, hg1', hb1, hf1⟩
  refine sxl_y (wn_none rfl) rfl rfl (yp rfl) ?_
  refine sxl_nil ?_
  refine qx_seq ?_
  refine sx_seq ?_
  refine sx_region ?_
  refine sxl_does (some 4) (wn_none rfl) rfl rfl (fun ρ hρ => does_slice0 32 5 1 rfl Try.underlying32 (by kernel_rfl)) ?_
  rintro _ w2 ⟨g2, rfl, hg2, hg2', -, hf2, ho2⟩
  have hz1 := hf1.size
  have ho2 := ho2 w.heap.size (by omega)
  have hb2 := hb1.fr0 hf2
  have d2 : Cell w2.heap g1 2 (.slice p.dA p.data.length p.dc) := hb2.c 2 rfl
  have d3 : Cell w2.heap g1 3 (.bool p.whole) := hb2.c 3 rfl
  have hF2 := hf1.then0 hf2
  have hmin := min_nat p.data.length 300
  have hdl := h.dl
  have hdm := h.dm
  refine sxl_y (wn_none rfl) rfl rfl (yp rfl) ?_
  refine sxl_y (wn_none rfl) rfl rfl (y_load rfl rfl (sc rfl) (by assumption)) ?_
  refine sxl_y (wn_none rfl) rfl rfl (yp rfl) ?_
  refine sxl_y (wn_none rfl) rfl rfl (y_load rfl rfl (sc rfl) (by assumption)) ?_
  refine sxl_y (wn_none rfl) rfl rfl (y_len rfl rfl (sl rfl)) ?_
  refine sxl_y (wn_none rfl) rfl rfl (y_min rfl rfl rfl) ?_
  refine sxl_y (wn_none rfl) rfl rfl (y_sliceTo rfl rfl rfl (sl rfl) (by omega)) ?_
  rw [show (300 : Int) = ((300 : Nat) : Int) from rfl, hmin]
  have ht : (bvs p.data).take (min p.data.length 300) = bvs (p.data.take 300) := by
    unfold bvs
    rw [← List.map_take]
    congr 1
    rcases Nat.le_total p.data.length 300 with hh | hh
    · rw [Nat.min_eq_left hh, List.take_of_length_le (Nat.le_refl _), List.take_of_length_le hh]
    · rw [Nat.min_eq_right hh]
  refine sxl_does (some 12) (wn_none rfl) rfl rfl (fun ρ hρ => does_append (.tmp 4) (.tmp 11) 32 rfl w.heap.size 5 (.int .u8 0) 1 Try.underlying32 info_u8 rfl _ 0 [] (hρ _ _ rfl) ho2 p.dA (min p.data.length 300) p.dc (bvs (p.data.take 300)) (hρ _ _ rfl) (by
    have := ((h.fr0 hF2).d.takeN (k := min p.data.length 300) (Nat.min_le_left _ _))
    rwa [ht] at this) (bvs_one _) (by unfold maxLen; omega) (by omega) hF2.size) ?_
  rintro v3 w3 ⟨ho3, hg3, hv3⟩
  rw [Nat.zero_add, List.nil_append] at ho3
  have hl3 : min p.data.length 300 = (p.data.take 300).length := by rw [List.length_take, Nat.min_comm]
  rw [hl3] at ho3
  have hF3 : Fr0 w w3 := hF2.app ho2 (Nat.le_refl _) hg3
  have hf23 : Fr (fun k => k = g2) w2 w3 := Fr.grown (S := fun k => k = g2) Fr.refl hg3 (fun k e _ => by injection e with e; exact e.symm)
  have hb3 := hb2.fr hf23 (by omega)
  refine sxl_y (wn_none rfl) rfl rfl (yp rfl) ?_
  refine sxl_nil ?_
  refine qx_seq ?_
  refine sx_seq ?_
  refine sx_block ?_
  generalize hc : UInt8.ofNat p.data.length = c
  refine sx_via (ι := Value × List UInt8) 0 (fun x w' => w'.ownsRow w.heap.size 5 1 x.1 x.2.length (bvs x.2) ∧ Blk w' g1 54 p.cells ∧ Fr0 w w' ∧ x.2 = (if p.whole then p.data.take 300 ++ List.replicate (128 - (p.data.take 300).length) c else p.data.take 300)) (fun x => [(3, x.1), (1, .pointer (some ⟨g1, 0, none⟩))]) ?_ ?_
  rotate_left
  · intro fin
    refine sx_loop (fun e wr m => ∃ (n : Nat) (v : Value), e = [(3, v), (1, .pointer (some ⟨g1, 0, none⟩))] ∧ n ≤ 128 - (p.data.take 300).length ∧ wr.ownsRow w.heap.size 5 1 v (p.data.take 300 ++ List.replicate n c).length (bvs (p.data.take 300 ++ List.replicate n c)) ∧ (p.whole = false → n = 0) ∧ Blk wr g1 54 p.cells ∧ Fr0 w wr ∧ m = 128 - n) ⟨0, v3, rfl, Nat.zero_le _, by simpa using ho3, fun _ => rfl, hb3, hF3, rfl⟩ ⟨rfl, rfl, trivial⟩ ?_
    clear ho3 hb3 hF3 hf23 hb2 hb1 d2 d3 ho2 hv3 hg3
    rintro _ wr _ ⟨n, v, rfl, hn, ho, hw, hb, hf, rfl⟩
    have d2 : Cell wr.heap g1 2 (.slice p.dA p.data.length p.dc) := hb.c 2 rfl
    have d3 : Cell wr.heap g1 3 (.bool p.whole) := hb.c 3 rfl
    have hlen : (p.data.take 300 ++ List.replicate n c).length = (p.data.take 300).length + n := by rw [List.length_append, List.length_replicate]
    obtain ⟨A, cp, rfl, _⟩ := own_form0 ho
    cases hwh : p.whole with
    | false =>
      rw [hwh] at d3
      have hn0 := hw hwh
      subst hn0
      refine sx_seq ?_
      refine sx_seq ?_
      refine sx_region ?_
      refine sxl_y (wn_none rfl) rfl rfl (yp rfl) ?_
      refine sxl_y (wn_none rfl) rfl rfl (y_load rfl rfl (sc rfl) (by assumption)) ?_
      refine sxl_y (wn_none rfl) rfl rfl (yp rfl) ?_
      refine sxl_off rfl rfl rfl rfl rfl rfl ?_
      refine sxl_off rfl rfl rfl rfl rfl rfl ?_
      refine sxl_off rfl rfl rfl rfl rfl rfl ?_
      refine sxl_y (wn_none rfl) rfl rfl (yp rfl) ?_
      refine sxl_nil ?_
      refine qx_seq ?_
      refine sx_false rfl ?_
      refine sx_exit ?_
      refine qx_then_exit ?_
      refine qx_then_exit ?_
      exact fin (_, _) _ _ ⟨ho, hb, hf, by rw [hwh]; simp⟩ ⟨rfl, rfl, trivial⟩
    | true =>
      rw [hwh] at d3
      by_cases hlt : (p.data.take 300 ++ List.replicate n c).length < 128
      · refine sx_seq ?_
        refine sx_seq ?_
        refine sx_region ?_
        refine sxl_y (wn_none rfl) rfl rfl (yp rfl) ?_
        refine sxl_y (wn_none rfl) rfl rfl (y_load rfl rfl (sc rfl) (by assumption)) ?_
        refine sxl_y (wn_none rfl) rfl rfl (yp rfl) ?_
        refine sxl_y (wn_on rfl rfl rfl) rfl rfl (yp rfl) ?_
        refine sxl_y (wn_on rfl rfl rfl) rfl rfl (y_len rfl rfl (sl rfl)) ?_
        refine sxl_y (wn_on rfl rfl rfl) rfl rfl (y_lss_t rfl rfl rfl (by omega)) ?_
        refine sxl_y (wn_none rfl) rfl rfl (yp rfl) ?_
        refine sxl_nil ?_
        refine qx_seq ?_
        refine sx_true rfl ?_
        refine sx_skip ?_
        refine qx_seq ?_
        refine sx_block ?_
        refine sx_region ?_
        refine sxl_y (wn_none rfl) rfl rfl (yp rfl) ?_
        refine sxl_y (wn_none rfl) rfl rfl (yp rfl) ?_
        refine sxl_y (wn_none rfl) rfl rfl (y_load rfl rfl (sc rfl) (by assumption)) ?_
        refine sxl_y (wn_none rfl) rfl rfl (y_len rfl rfl (sl rfl)) ?_
        refine sxl_y (wn_none rfl) rfl rfl (y_convInt rfl rfl Try.underlying3 Try.underlying5 ((u8_wrap_nat p.data.length).trans (by rw [hc]))) ?_
        refine sxl_does (some 25) (wn_none rfl) rfl rfl (fun ρ hρ => does_slice (size := 1) [.int .u8 (c.toNat : Int)] (.int .u8 0) hρ rfl rfl rfl rfl Try.underlying32 (by kernel_rfl) (by decide) (by decide) (by intro v hv; obtain rfl : v = _ := (by simpa using hv); rfl)) ?_
        rintro _ w4 ⟨g4, rfl, hg4, hg4', hb4, hf4⟩
        have hb4 : Blk w4 g4 5 [bv c] := by simpa [Value.cells, bv] using hb4
        have ho4 := ownN_fr ho hf4 (fun _ _ hh => hh)
        refine sxl_does (some 26) (wn_none rfl) rfl rfl (fun ρ hρ => does_append (.tmp 20) (.tmp 25) 32 rfl w.heap.size 5 (.int .u8 0) 1 Try.underlying32 info_u8 rfl _ _ _ (hρ _ _ rfl) ho4 (some ⟨g4, 0, none⟩) 1 1 [bv c] (hρ _ _ rfl) (rd_one hb4) (by intro u hu; obtain rfl : u = _ := (by simpa using hu); rfl) (by unfold maxLen; omega) (by omega) (hf.then0 hf4).size) ?_
        rintro v5 w5 ⟨ho5, hg5, hv5⟩
        have hf5 : Fr (fun k => (Value.slice A (p.data.take 300 ++ List.replicate n c).length cp).ownBlock = some k) w4 w5 := Fr.grown (S := fun k => (Value.slice A (p.data.take 300 ++ List.replicate n c).length cp).ownBlock = some k) Fr.refl hg5 (fun k e _ => e)
        have hb5 := (hb.fr0 hf4).fr hf5 (own_off ho4 (hb.fr0 hf4) (by decide))
        have e5 : p.data.take 300 ++ List.replicate (n + 1) c = (p.data.take 300 ++ List.replicate n c) ++ [c] := by rw [List.replicate_succ', List.append_assoc]
        refine sxl_y (wn_none rfl) rfl rfl (yp rfl) ?_
        refine sxl_nil ?_
        refine qx_block_normal ?_
        refine qx_again [(3, v5), (1, .pointer (some ⟨g1, 0, none⟩))] (128 - (n + 1)) ⟨n + 1, v5, rfl, by omega, ?_, (fun e => by cases e), hb5, (hf.then0 hf4).app ho4 (Nat.le_refl _) hg5, rfl⟩ (by omega) ⟨rfl, rfl, trivial⟩
        rw [e5, bvs_append, List.length_append]
        exact ho5
      · have hlt2 : p.data.take 300 ++ List.replicate n c = p.data.take 300 ++ List.replicate (128 - (p.data.take 300).length) c := by
          rw [show n = 128 - (p.data.take 300).length by omega]
        refine sx_seq ?_
        refine sx_seq ?_
        refine sx_region ?_
        refine sxl_y (wn_none rfl) rfl rfl (yp rfl) ?_
        refine sxl_y (wn_none rfl) rfl rfl (y_load rfl rfl (sc rfl) (by assumption)) ?_
        refine sxl_y (wn_none rfl) rfl rfl (yp rfl) ?_
        refine sxl_y (wn_on rfl rfl rfl) rfl rfl (yp rfl) ?_
        refine sxl_y (wn_on rfl rfl rfl) rfl rfl (y_len rfl rfl (sl rfl)) ?_
        refine sxl_y (wn_on rfl rfl rfl) rfl rfl (y_lss_f rfl rfl rfl (by omega)) ?_
        refine sxl_y (wn_none rfl) rfl rfl (yp rfl) ?_
        refine sxl_nil ?_
        refine qx_seq ?_
        refine sx_false rfl ?_
        refine sx_exit ?_
        refine qx_then_exit ?_
        refine qx_then_exit ?_
        exact fin (_, _) _ _ ⟨ho, hb, hf, by rw [hwh]; exact hlt2⟩ ⟨rfl, rfl, trivial⟩
  rintro ⟨v, b⟩ w5 ⟨ho, hb, hf, hbe⟩
  have d3 : Cell w5.heap g1 3 (.bool p.whole) := hb.c 3 rfl
  have ho : w5.ownsRow w.heap.size 5 1 v b.length (bvs b) := ho
  have hbz : b = (if p.whole then p.data.take 300 ++ List.replicate (128 - (p.data.take 300).length) c else p.data.take 300) := hbe
  clear hbe
  obtain ⟨A, cp, rfl, _⟩ := own_form0 ho
  obtain ⟨_, _, ec, hcp, _, _, _⟩ := ownN_form ho
  injection ec with e1 _ e2
  subst e1; subst e2
  cases hwh : p.whole with
  | false =>
    rw [hwh] at d3 hbz
    have hs : secOf p = b := by unfold secOf; rw [hwh, hbz]; rfl
    rw [hs]
    refine qx_block_hit ?_
    refine qx_seq ?_
    refine sx_seq ?_
    refine sx_seq ?_
    refine sx_region ?_
    refine sxl_y (wn_none rfl) rfl rfl (yp rfl) ?_
    refine sxl_y (wn_none rfl) rfl rfl (y_load rfl rfl (sc rfl) (by assumption)) ?_
    refine sxl_nil ?_
    refine qx_seq ?_
    refine sx_false rfl ?_
    refine sx_skip ?_
    refine qx_seq ?_
    refine sx_seq ?_
    refine sx_region ?_
    refine sxl_y (wn_none rfl) rfl rfl (yp rfl) ?_
    refine sxl_y (wn_none rfl) rfl rfl (yp rfl) ?_
    refine sxl_nil ?_
    refine qx_seq ?_
    refine sx_ret ?_
    refine qx_ret1 rfl rfl ?_
    exact ⟨A, cp, rfl, ho, hf⟩
  | true =>
    rw [hwh] at d3 hbz
    have hbl : 128 ≤ b.length := by rw [hbz]; simp only [if_true]; rw [List.length_append, List.length_replicate]; omega
    have hs : secOf p = b.take 128 := by unfold secOf; rw [hwh, hbz, hc]; rfl
    have hsl : (secOf p).length = 128 := by rw [hs, List.length_take]; omega
    have ho' := own_take ho hbl
    rw [hsl]
    rw [hs]
    refine qx_block_hit ?_
    refine qx_seq ?_
    refine sx_seq ?_
    refine sx_seq ?_
    refine sx_region ?_
    refine sxl_y (wn_none rfl) rfl rfl (yp rfl) ?_
    refine sxl_y (wn_none rfl) rfl rfl (y_load rfl rfl (sc rfl) (by assumption)) ?_
    refine sxl_nil ?_
    refine qx_seq ?_
    refine sx_true rfl ?_
    refine sx_region ?_
    refine sxl_y (wn_none rfl) rfl rfl (yp rfl) ?_
    refine sxl_y (wn_none rfl) rfl rfl (y_sliceTo rfl rfl rfl (sl rfl) (by omega)) ?_
    refine sxl_y (wn_none rfl) rfl rfl (yp rfl) ?_
    refine sxl_nil ?_
    refine qx_seq ?_
    refine sx_seq ?_
    refine sx_region ?_
    refine sxl_y (wn_none rfl) rfl rfl (yp rfl) ?_
    refine sxl_y (wn_none rfl) rfl rfl (yp rfl) ?_
    refine sxl_nil ?_
    refine qx_seq ?_
    refine sx_ret ?_
    refine qx_ret1 rfl rfl ?_
    refine ⟨A, cp, rfl, ?_, hf⟩
    unfold bvs at ho' ⊢
    rwa [List.map_take]
end Go.Proofs.Ytbfeailalhddgaa
