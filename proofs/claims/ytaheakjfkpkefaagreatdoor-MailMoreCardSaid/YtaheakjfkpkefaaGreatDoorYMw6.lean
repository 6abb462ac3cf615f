/- Lemmas that the last text rests on. Condition: each says its own. -/
import Derived.Test.YtaheakjfkpkefaaGreatDoorYMiP
set_option maxHeartbeats 16000000
set_option maxRecDepth 100000
namespace Go.Proofs.YtaheakjfkpkefaaGreatDoor
open Go.RowKit
open Tryz
theorem bD {e : Env} {w : World} {o : Oper} {x : Operand} {b : El} (ho : o.op = .field 95 x 10) (hx : ev e x = some (.agg b.cells.toArray)) : Y prog e o w (AA b.tries) := fun ρ h => by
 unfold execOp
 simp [ho, h _ _ hx, Instr.field, run_underlying underlying95, asAgg, part, isAgg3, El.cells]
def MA (l : List Ar) (k : Int) : Bool := l.any fun a => decide (a.rests = k) && decide (0 < a.rests)
theorem n5 {l l' : List Ar} {f : Int → Option Value} {z : Ar} (h : ∀ k, (f k).getD (.bool false) = .bool (MA l k)) (hl : l' = l ++ [z]) : ∀ k, (upd f z.rests (.bool (decide ((0 : Int) < z.rests))) k).getD (.bool false) = .bool (MA l' k) := fun k => by
 subst hl
 unfold upd
 by_cases hk : k = z.rests
 ·rw [if_pos hk]
  have h1 : MA (l ++ [z]) k = (MA l k || decide (0 < z.rests)) := by unfold MA; rw [List.any_append]; simp [hk]
  rw [h1]
  by_cases h0 : 0 < z.rests
  ·rw [decide_eq_true h0, Bool.or_true]; rfl
  ·have h2 : MA l k = false := by
    unfold MA
    rw [List.any_eq_false]
    intro a _
    simp only [Bool.and_eq_true, decide_eq_true_eq, not_and]
    omega
   rw [h2, decide_eq_false h0]; rfl
 ·rw [if_neg hk, h k]
  congr 1
  unfold MA
  rw [List.any_append]
  have : ¬ z.rests = k := fun e => hk e.symm
  simp [this]
def YE (c : CrA) (clock id : Int) (a : Ar) : Tk := if (!decide (a.at_ = [])) = true then ⟨id, a.at_, [], clock, (c.atf a.at_).tries, [], 0, 0, 0⟩ else if a.stops = true then ⟨id, [], a.flow, 0, 0, [], 0, 1, 91⟩ else ⟨id, [], a.flow, 0, 0, [], 0, 0, 0⟩
section
variable {c : CrA} {clock id : Int} {a : Ar}
theorem QE (h : (!decide (a.at_ = [])) = true) : YE c clock id a = ⟨id, a.at_, [], clock, (c.atf a.at_).tries, [], 0, 0, 0⟩ := if_pos h
theorem LX (h : (!decide (a.at_ = [])) = false) (h2 : a.stops = true) : YE c clock id a = ⟨id, [], a.flow, 0, 0, [], 0, 1, 91⟩ := by rw [YE, AS h, if_pos h2]
theorem QD (h : (!decide (a.at_ = [])) = false) (h2 : a.stops = false) : YE c clock id a = ⟨id, [], a.flow, 0, 0, [], 0, 0, 0⟩ := by rw [YE, AS h, AS h2]
end
def WI (c : CrA) (clock : Int) : Int → List Ar → List Tk
 | _, [] => []
 | n, a :: r => YE c clock (n + 1) a :: WI c clock (n + 1) r
theorem JO (c : CrA) (clock : Int) (a : Ar) : ∀ (l : List Ar) (n : Int), WI c clock n (l ++ [a]) = WI c clock n l ++ [YE c clock (n + (l.length : Int) + 1) a]
 | [], n => by simp [WI]
 | b :: r, n => by
  rw [List.cons_append, WI, WI, JO c clock a r (n + 1), List.cons_append]
  congr 3
  simp only [List.length_cons]; congr 1; omega
def JM (c : CrA) (kept : List Tk) (ls : List Ar) (next clock : Int) : List Tk := kept.filter (fun t : Tk => (!decide (t.loc = [])) || MA ls t.id) ++ WI c clock next (ls.filter (fun a : Ar => !decide (0 < a.rests)))
theorem L3 {z : Ar} (h : decide ((0 : Int) < z.rests) = false) : [z].filter (fun a : Ar => !decide (0 < a.rests)) = [z] := by simp [h]
theorem L4 {z : Ar} (h : decide ((0 : Int) < z.rests) = true) : [z].filter (fun a : Ar => !decide (0 < a.rests)) = [] := by simp [h]
theorem jL {ls : List Ar} {y : Tk} (h : ((!decide (y.loc = [])) || MA ls y.id) = true) : [y].filter (fun t : Tk => (!decide (t.loc = [])) || MA ls t.id) = [y] := by simp only [List.filter_cons, List.filter_nil, h, if_true]
theorem jM {ls : List Ar} {y : Tk} (h : ((!decide (y.loc = [])) || MA ls y.id) = false) : [y].filter (fun t : Tk => (!decide (t.loc = [])) || MA ls t.id) = [] := by simp only [List.filter_cons, List.filter_nil, h]; rfl
theorem X6 {α : Type} (p : α → Bool) {l : List α} {k : Nat} {z : α} (hz : l[k]? = some z) (hp : p z = true) : ((l.take k).filter p).length + 1 ≤ (l.filter p).length := by
 have h1 : l = l.take k ++ z :: l.drop (k + 1) := by rw [← B0 hz, List.take_append_drop]
 conv => rhs; rw [h1]
 rw [List.filter_append, List.filter_cons_of_pos hp, List.length_append, List.length_cons]; omega
theorem LM (a0 : Int) (a1 : List UInt8) (a3 : Int) (a4 : Int) : prog.built 56 [(0, AA a0), (1, str a1), (3, AA a3), (4, AA a4)] = some #[AA a0, str a1, str [], AA a3, AA a4, str [], AA 0, .int .u8 0, AA 0] := by kernel_rfl
theorem HN : (prog.info? 56).map (fun i => (i.zero, i.size)) = some (some (.agg #[AA 0, str [], str [], AA 0, AA 0, str [], AA 0, .int .u8 0, AA 0]), 9) := by kernel_rfl
theorem jT (x : Int) (w : World) : Calls prog 148 #[AA x] w (BN w (.bool (!(decide (x = x))))) := by
 refine BL func148 ntmps148 rfl fun M => srg (AG rfl (AC rfl (yb rfl (FT rfl rfl (yb rfl (gnr (gr1 rfl ?_)))))))
 exact ⟨rfl, M.fr⟩
def LJ (x y : Int) : Int := (if (!(decide (x = x))) = true then (if (!(decide (y = y))) = true then 0 else (-1)) else (if (!(decide (y = y))) = true then 1 else (if (decide (x < y)) = true then (-1) else (if (decide (y < x)) = true then 1 else 0))))
theorem XD (x y : Int) (w : World) : Calls prog 90 #[AA x, AA y] w (BN w (AA (LJ x y))) := by
 refine BL func90 ntmps90 rfl fun M => srg (AG rfl (AC rfl (DV M 8 rfl rfl call148 (jT x _) fun w1 M => AG rfl (AC rfl ?_))))
 refine DV M 10 rfl rfl call148 (jT y _) fun w2 M => AG rfl (sx_seq (srg (AG rfl (AF rfl (fun h11 => ?_) (fun h11 => ?_)))))
 ·refine sx_seq (srg (AG rfl (AF rfl (fun h12 => ?_) (fun h12 => ?_))))
  ·exact AC rfl (gnr (qx_then_ret (qx_then_ret (gr1 rfl ⟨by rw [LJ, if_pos h11, if_pos h12] <;> rfl, M.fr⟩))))
  ·exact sx_skip (qx_seq (AC rfl (gnr (qx_then_ret (gr1 rfl ⟨by rw [LJ, if_pos h11, AS h12] <;> rfl, M.fr⟩)))))
 ·refine sx_skip (qx_seq (sx_seq (srg (AG rfl (AF rfl (fun h13 => ?_) (fun h13 => ?_))))))
  ·exact AC rfl (gnr (qx_then_ret (gr1 rfl ⟨by rw [LJ, AS h11, if_pos h13] <;> rfl, M.fr⟩)))
  ·refine sx_skip (qx_seq (sx_seq (AC rfl (yb rfl (BM rfl rfl (nq (AF rfl (fun h16 => ?_) (fun h16 => ?_))))))))
   ·exact AC rfl (gnr (qx_then_ret (gr1 rfl ⟨by rw [LJ, AS h11, AS h13, if_pos h16] <;> rfl, M.fr⟩)))
   ·refine sx_skip (qx_seq (sx_seq (AC rfl (yb rfl (O8 rfl rfl (nq (AF rfl (fun h19 => ?_) (fun h19 => ?_))))))))
    ·exact AC rfl (gnr (qx_then_ret (gr1 rfl ⟨by rw [LJ, AS h11, AS h13, AS h16, if_pos h19] <;> rfl, M.fr⟩)))
    ·exact sx_skip (qx_seq (AC rfl (gnr (gr1 rfl ⟨by rw [LJ, AS h11, AS h13, AS h16, AS h19] <;> rfl, M.fr⟩))))
def SK (Q : Nat → Prop) : Prop := ∀ (base : Nat) (A : Option Addr) (c n : Nat) (l : List Ar) (w : World), Q l.length → n ≤ 1000000000 → l.length = n → w.ownsRow base 139 5 (.slice A n c) n (AB Ar.cells l) →
 Calls prog 98 #[.slice A n c, .func (.func 99) #[] #[]] w fun e w' => e = .returned (.tuple #[]) ∧ ∃ l' : List Ar, l'.Perm l ∧ w'.ownsRow base 139 5 (.slice A n c) n (AB Ar.cells l') ∧ Fr (fun k => k ∈ (Value.slice A n c).ownBlock.toList) w w'
theorem Y5 (m : Md) (gc : Nat) (c : CrA) (F : List Nat) (V : Option Addr) (vn vc gx : Nat) (σ : Mo) (F' : List Nat) (K : Option Addr) (kc : Nat) (kept : List Tk) (next clock : Int) (w : World) (h1 : σ.on.length ≤ 500000) (h2 : σ.done.length ≤ 400000) (h3 : kept.length ≤ 400000) (hn1 : 0 ≤ next) (hn2 : next ≤ 2147483647) (hC : CourseN w m gc c F) (hN : MoN w gc V vn vc gx σ F') (hK : Rd w K (kept.length * 9) (AB Tk.cells kept)) {Q : Nat → Prop} (hS : SK Q) (hQ : Q (σ.on ++ σ.done).length) :
 Calls prog 55 #[pg gx, .slice K kept.length kc, AA next, AA clock] w fun e w' => ∃ ls : List Ar, ls.Perm (σ.on ++ σ.done) ∧ Fr0 w w' ∧ ((2147483647 < next + ((ls.filter (fun a : Ar => !decide (0 < a.rests))).length : Int) ∧ e = .returned (.tuple #[.slice none 0 0, AA 0, AA 3])) ∨ (next + ((ls.filter (fun a : Ar => !decide (0 < a.rests))).length : Int) ≤ 2147483647 ∧ ∃ A c', e = .returned (.tuple #[.slice A (JM c kept ls next clock).length c', AA (next + ((ls.filter (fun a : Ar => !decide (0 < a.rests))).length : Int)), AA 0]) ∧ w'.ownsRow w.heap.size 56 9 (.slice A (JM c kept ls next clock).length c') (JM c kept ls next clock).length (AB Tk.cells (JM c kept ls next clock)))) := by
 obtain ⟨on, dn, fi, cm⟩ := σ
 obtain ⟨_, _, x, Mx⟩ := hN
 dsimp only at h1 h2 Mx
 have hbx := Mx.blk 0 rfl
 have hon := Mx.rdOwn 1 rfl
 have hdn := Mx.rdOwn 2 rfl
 refine BL func55 ntmps55 rfl fun M => AC rfl (yb rfl (AG rfl (sx_seq (I6 M 11 CL fun M => oc 0 11 rfl rfl M (oc 1 11 rfl rfl M (oc 2 11 rfl rfl M (ol 3 11 rfl rfl rfl M (fun _ M => (Blk.c (hbx.fr0 M.fr) 2 rfl)) (oc 5 11 rfl rfl M (oc 6 11 rfl rfl M ?_)))))))))
 refine oc 7 11 rfl rfl M (ol 8 11 rfl rfl rfl M (fun _ M => (Blk.c (hbx.fr0 M.fr) 3 rfl)) (C5 4 (some 25) gkr rfl (wn_none rfl) rfl rfl (AE rfl rfl call97) (aR x.A x.a on _ A0 (hon.fr0 M.fr)) ?_))
 rintro _ w1 ⟨A25, c25, rfl, how1, hfw1⟩
 refine ⟨_, rfl, fun _ => M.step hfw1, ?_⟩
 have M := M.pushOwn hfw1 (Nat.le_refl _) how1
 refine AR 9 (some 30) gkr rfl (wn_none rfl) rfl rfl (fun ρ hρ => BV _ _ _ rfl w.heap.size _ _ _ _ underlying135 EB rfl AU _ _ _ (hρ _ _ rfl) (M.own 0 rfl) _ _ _ _ (hρ _ _ rfl) (hdn.fr0 M.fr) (D8 Ar.cells_one) (by unfold maxLen; first | omega | (simp; omega)) CX M.fr.size) ?_
 rintro v30 w2 ⟨ho30, hgr30, hvb30⟩
 replace ho30 : World.ownsRow w2 w.heap.size 139 5 v30 ((on ++ dn).length) (AB Ar.cells (on ++ dn)) := by rw [show ((on ++ dn).length) = on.length + dn.length from by simp, show (AB Ar.cells (on ++ dn)) = (AB Ar.cells on) ++ (AB Ar.cells dn) from by first | exact AT _ _ _ | simp [AB, Ar.cells]]; exact ho30
 have M := M.appOwn 0 rfl ho30 hgr30 hvb30
 obtain ⟨A30, c30, rfl, _⟩ := CC ho30
 refine ⟨fun _ => (M.drop 1), oc 10 11 rfl rfl (M.drop 1) (fdn (qx_seq (AC rfl (cl 32 rfl (AE rfl rfl call98) (hS w.heap.size A30 c30 ((on ++ dn).length) (on ++ dn) _ hQ (by simp; omega) rfl (M.own 0 rfl)) ?_))))⟩
 rintro _ w3 ⟨rfl, ls, hpl, how3, hfw3⟩
 refine ⟨_, rfl, ?_⟩
 have M := M.upd 0 rfl hfw3 (As.own _ 139 5 (.slice A30 ((on ++ dn).length) c30) ((on ++ dn).length) (AB Ar.cells ls)) how3 (fun g hg => .inl hg)
 have hll : ls.length = (on ++ dn).length := hpl.length_eq
 have hlb : ls.length ≤ 900000 := by rw [hll]; simp; omega
 rw [← hll] at M ⊢
 refine EF (AG rfl (srg (bO M (wn_none rfl) rfl rfl rfl fun g33 w4 hg33 M => AG rfl (sx_seq (sx_seq ?_)))))
 refine sx_region (yb rfl (DP rfl rfl (AG rfl (sx_block (flp [35, 34, 13, 12, 11, 3, 2, 1, 0] (fun ze e wr mz => ∃ (i : Nat) (f : Int → Option Value), e = (36, AA (i : Int)) :: ze ∧ Mem w AM [As.mi g33 f, As.own w.heap.size 139 5 (.slice A30 ls.length c30) ls.length (AB Ar.cells ls)] wr ∧ (i ≤ ls.length) ∧ (∀ k, (f k).getD (.bool false) = .bool (MA (ls.take i) k)) ∧ mz = ls.length - i) ⟨0, _, rfl, M, Nat.zero_le _, fun _ => rfl, rfl⟩ ?_)))))
 rintro _ w5 _ ⟨i, f, rfl, M, hi, hf, rfl⟩
 refine srg (BM rfl rfl (nq (sx_seq (AF rfl (fun h37 => ?_) (fun h37 => ?_)))))
 ·have h37p := (odt h37)
  refine sx_skip (qx_seq (sx_seq (sx_block (srg ?_))))
  obtain ⟨z, hz⟩ := BZ (l := ls) (i := i) A0
  obtain ⟨b_z, o_z, hA_z⟩ := B7 (k := 5) A0 (M.rdOwn 1 rfl) hz
  refine ya rfl (AP i hA_z rfl rfl rfl (sl rfl) A0) (ya rfl (AH rfl rfl (BB Ar.len (M.rdOwn 1 rfl) hA_z hz) underlying139 rfl CG) (CO M rfl EV fun g15 w6 hg15 M => C2 M 0 rfl rfl CG rfl fun w7 M => nq (sx_region (AV rfl rfl (B2 M 0 rfl rfl rfl (yb rfl (B2 M 0 rfl rfl rfl (O8 rfl rfl (fY M 1 (wn_none rfl) rfl rfl rfl rfl rfl underlying191 underlying3 rfl ?_)))))))))
  intro w8 M
  refine sxl_nil (qx_block_normal (qx_seq (sx_region (C1 rfl rfl (yb rfl (sxl_nil (fag ⟨i + 1, (upd f z.rests (.bool (decide ((0 : Int) < z.rests)))), rfl, (M.pk [1, 2]), ?_, ?_, rfl⟩)))))))
  ·omega
  ·exact n5 hf (AJ hz)
 ·have h37p := (odf h37)
  refine sx_exit (qx_then_exit (qx_then_exit ?_))
  obtain rfl : i = ls.length := by omega
  have hF := hf
  simp only [List.take_length] at hF
  refine qx_block_hit (qx_seq (sx_seq (AC rfl (DP rfl rfl (AG rfl (sx_block ?_))))))
  have M := M.nilOwn 56 9
  refine flp [48, 47, 13, 11, 3, 2, 0] (fun ze e wr mz => ∃ (j : Nat) (acc : List Tk) (A12 : Option Addr) (c12 : Nat), e = (12, .slice A12 acc.length c12) :: (49, AA (j : Int)) :: ze ∧ Mem w AM [As.own w.heap.size 56 9 (.slice A12 acc.length c12) acc.length (AB Tk.cells acc), As.mi g33 f, As.own w.heap.size 139 5 (.slice A30 ls.length c30) ls.length (AB Ar.cells ls)] wr ∧ (j ≤ kept.length) ∧ (acc = (kept.take j).filter (fun t : Tk => (!decide (t.loc = [])) || MA ls t.id)) ∧ (acc.length ≤ j) ∧ mz = kept.length - j) ⟨0, [], none, 0, rfl, M, Nat.zero_le _, rfl, Nat.le_refl _, rfl⟩ ?_
  rintro _ w9 _ ⟨j, acc, A12, c12, rfl, M, hj, hacc, hal, rfl⟩
  refine srg (BM rfl rfl (nq (sx_seq (AF rfl (fun h50 => ?_) (fun h50 => ?_)))))
  ·have h50p := (odt h50)
   refine sx_skip (qx_seq (sx_seq (sx_block (srg ?_))))
   obtain ⟨y, hy⟩ := BZ (l := kept) (i := j) A0
   obtain ⟨b_y, o_y, hA_y⟩ := B7 (k := 9) A0 (hK.fr0 M.fr) hy
   refine ya rfl (AP j hA_y rfl rfl rfl (sl rfl) A0) (ya rfl (AH rfl rfl (BB Tk.len (hK.fr0 M.fr) hA_y hy) underlying56 rfl B1) (CO M rfl EP fun g17 w10 hg17 M => C2 M 0 rfl rfl B1 rfl fun w11 M => nq (AC rfl (B2 M 0 rfl rfl rfl (ya rfl (FV rfl rfl rfl) (yb rfl (fvm M 5 [17, 49, 48, 47, 13, 12, 11, 3, 2, 0] [(61, .bool ((!decide (y.loc = [])) || (MA ls y.id)))] ?_ (fun k56 => ?_))))))))
   ·intro w12 M
    refine nq (AF rfl (fun h61 => ?_) (fun h61 => ?_))
    ·have h61p := ((E6 h61).imp (fun z => (odf (BY z))) (fun z => z))
     refine sx_region (yb rfl (DO M 0 rfl rfl underlying56 B1 rfl (CU M (wn_none rfl) rfl rfl [.agg (Tk.cells y).toArray] (Tk.cells y) rfl rfl rfl rfl underlying31 HN rfl rfl (EZ rfl) rfl fun g64 w13 hg64 M => DC (len' := (acc ++ [y]).length) (xs' := AB Tk.cells (acc ++ [y])) M 2 (wn_none rfl) rfl rfl rfl rfl rfl rfl (M.rdBlk 0 rfl rfl) underlying31 FJ rfl AU (BG rfl) (Nat.le_refl _) (Nat.le_refl _) CX (by unfold maxLen; first | omega | (simp; omega)) (by simp) (by first | exact (AT _ _ _).symm | simp [AB, Tk.cells]) fun A65 c65 w14 M => yb rfl (sxl_nil (qx_block_normal (qx_seq (sx_region (C1 rfl rfl (yb rfl (sxl_nil (fag ⟨j + 1, acc ++ [y], A65, c65, rfl, (M.pk [2, 3, 4]), ?_, ?_, ?_, rfl⟩)))))))))))
     ·omega
     ·rw [AJ hy, List.filter_append, ← hacc]
      first
       | rw [jL h61]
       | (rw [jM h61]; simp)
     ·first
       | omega
       | (simp; omega)
    ·have h61p := (And.intro (odt (BJ (BT h61).1)) (BT h61).2)
     refine sx_skip (qx_block_normal (qx_seq (sx_region (C1 rfl rfl (yb rfl (sxl_nil (fag ⟨j + 1, acc, A12, c12, rfl, (M.pk [1, 2, 3]), ?_, ?_, ?_, rfl⟩)))))))
     ·omega
     ·rw [AJ hy, List.filter_append, ← hacc]
      first
       | rw [jL h61]
       | (rw [jM h61]; simp)
     ·first
       | omega
       | (simp; omega)
   refine AD (d := 56) rfl (fun h56 => ?_) (fun h56 => ?_)
   ·iterate 4 refine yo rfl ?_
    exact yb rfl (k56 M ⟨rfl, rfl, rfl, rfl, rfl, rfl, rfl, rfl, rfl, rfl, (by rw [h56]; rfl), trivial⟩)
   ·exact gyq rfl (gyq rfl (C3 M 0 rfl rfl rfl (yd rfl (f6 rfl rfl rfl underlying191 underlying3 LS (M.ok 2 _ rfl : Mi _ _ _) (hF y.id)) (yb rfl (k56 M ⟨rfl, rfl, rfl, rfl, rfl, rfl, rfl, rfl, rfl, rfl, (by rw [h56]; rfl), trivial⟩)))))
  ·have h50p := (odf h50)
   refine sx_exit (qx_then_exit (qx_then_exit ?_))
   obtain rfl : j = kept.length := by omega
   have hacc1 := hacc
   rw [List.take_length] at hacc1
   refine qx_block_hit (qx_seq (sx_seq (AC rfl (DP rfl rfl (AG rfl (sx_block (flp [68, 67, 3, 0] (fun ze e wr mz => ∃ (k : Nat) (acc2 : List Tk) (A13 : Option Addr) (c13 : Nat) (nx : Int), e = (2, AA nx) :: (12, .slice A13 acc2.length c13) :: (69, AA ((k : Nat) : Int)) :: ze ∧ Mem w AM [As.own w.heap.size 56 9 (.slice A13 acc2.length c13) acc2.length (AB Tk.cells acc2), As.mi g33 f, As.own w.heap.size 139 5 (.slice A30 ls.length c30) ls.length (AB Ar.cells ls)] wr ∧ (k ≤ ls.length) ∧ (acc2 = acc ++ WI c clock next ((ls.take k).filter (fun a : Ar => !decide (0 < a.rests)))) ∧ (nx = next + (((ls.take k).filter (fun a : Ar => !decide (0 < a.rests))).length : Int) ∧ nx ≤ 2147483647) ∧ (acc2.length ≤ kept.length + k) ∧ mz = ls.length - k) ⟨0, acc, A12, c12, next, rfl, M, Nat.zero_le _, (List.append_nil _).symm, ⟨(Int.add_zero _).symm, hn2⟩, by omega, rfl⟩ ?_)))))))
   rintro _ w15 _ ⟨k, acc2, A13, c13, nx, rfl, M, hk, hac2, hnx, hal2, rfl⟩
   refine srg (BM rfl rfl (nq (sx_seq (AF rfl (fun h70 => ?_) (fun h70 => ?_)))))
   ·have h70p := (odt h70)
    refine sx_skip (qx_seq (sx_seq (sx_block (srg ?_))))
    obtain ⟨z, hz⟩ := BZ (l := ls) (i := k) A0
    obtain ⟨b_z, o_z, hA_z⟩ := B7 (k := 5) A0 (M.rdOwn 2 rfl) hz
    refine ya rfl (AP k hA_z rfl rfl rfl (sl rfl) A0) (ya rfl (AH rfl rfl (BB Ar.len (M.rdOwn 2 rfl) hA_z hz) underlying139 rfl CG) (CO M rfl EV fun g19 w16 hg19 M => C2 M 0 rfl rfl CG rfl fun w17 M => nq (sx_seq (AC rfl (B2 M 0 rfl rfl rfl (O8 rfl rfl (nq ?_)))))))
    refine AF rfl (fun h75 => ?_) (fun h75 => ?_)
    ·have h75p := (odt h75)
     refine sx_exit (qx_then_exit (qx_block_hit (qx_seq (sx_region (C1 rfl rfl (yb rfl (sxl_nil (fag ⟨k + 1, acc2, A13, c13, nx, rfl, (M.pk [1, 2, 3]), ?_, ?_, ?_, ?_, rfl⟩))))))))
     ·omega
     ·rw [AJ hz, List.filter_append, hac2]
      first
       | (rw [L4 h75]; simp)
       | (rw [L3 h75, JO, ← hnx.1, List.append_assoc]; first
        | (rw [QE h84] <;> rfl)
        | (rw [LX h84 h104] <;> rfl)
        | (rw [QD h84 h104] <;> rfl))
     ·rw [AJ hz, List.filter_append]
      first
       | (rw [L4 h75]; simpa using hnx)
       | (rw [L3 h75, List.length_append]; refine ⟨?_, by omega⟩; rw [hnx.1]; simp; omega)
     ·first
       | omega
       | (simp; omega)
    ·have h75p := (odf h75)
     refine sx_skip (qx_seq (sx_seq (AC rfl (C7 rfl rfl (nq (AF rfl (fun h77 => ?_) (fun h77 => ?_)))))))
     ·have h77p := (odt h77)
      refine AC rfl (AV rfl rfl (gnr (qx_then_ret (qx_block_ret (qx_then_ret (qx_then_ret (qx_block_ret (qx_then_ret (QC rfl rfl rfl rfl ⟨ls, hpl, M.fr, .inl ⟨?_, rfl⟩⟩)))))))))
      have h1 := X6 (fun a : Ar => !decide (0 < a.rests)) hz (by rw [h75]; rfl)
      have h2 := hnx.1
      omega
     ·have h77p := (odf h77)
      refine sx_skip (qx_seq (AC rfl (C1 rfl rfl (AG rfl (AC rfl (yb rfl (B2 M 0 rfl rfl rfl (ya rfl (AY (parts := [(0, _), (2, _)]) rfl rfl (JY _ _)) (CO M rfl EP ?_)))))))))
      intro g20 w18 hg20 M
      refine C2 M 0 rfl rfl B1 rfl fun w19 M => nq (sx_seq (sx_block (AC rfl (B2 M 1 rfl rfl rfl (ya rfl (FV rfl rfl rfl) (AG rfl (AF rfl (fun h84 => ?_) (fun h84 => ?_))))))))
      ·have h84p := (odf (BY h84))
       refine DL 16 CL gkr ?_
       have M := M.drew
       refine sb rfl (sb rfl (GZ M 1 rfl rfl rfl ?_))
       iterate 4 refine sb rfl ?_
       refine sd rfl rfl (Blk.c (hbx.fr0 M.fr) 0 rfl) (sb rfl (sb rfl (sd rfl rfl (Blk.c ((hC.fr0 M.fr).blk) 5 rfl) (sb rfl (GZ M 1 rfl rfl rfl (sa rfl (BD rfl rfl rfl underlying85 underlying9 AQ ((hC.fr0 M.fr).A) (hC.getA _)) (sa rfl (bD (b := (c.atf z.at_)) rfl rfl) (sa rfl (AY (parts := [(0, _), (1, _), (3, _), (4, _)]) rfl rfl (LM _ _ _ _)) (CB (C2 M 0 rfl rfl B1 rfl fun w20 M => sxl_nil (qx_block_normal (qx_seq (sx_region ?_)))))))))))))
       refine yb rfl (DO M 0 rfl rfl underlying56 B1 rfl (CU M (wn_none rfl) rfl rfl [.agg #[AA (nx + (1 : Int)), str z.at_, str [], AA clock, AA ((c.atf z.at_).tries), str [], AA 0, .int .u8 0, AA 0]] ([AA (nx + (1 : Int)), str z.at_, str [], AA clock, AA ((c.atf z.at_).tries), str [], AA 0, .int .u8 0, AA 0]) rfl rfl rfl rfl underlying31 HN rfl rfl (EZ rfl) rfl fun g111 w21 hg111 M => DC (len' := (acc2 ++ [(⟨(nx + (1 : Int)), z.at_, [], clock, ((c.atf z.at_).tries), [], 0, 0, 0⟩ : Tk)]).length) (xs' := AB Tk.cells (acc2 ++ [(⟨(nx + (1 : Int)), z.at_, [], clock, ((c.atf z.at_).tries), [], 0, 0, 0⟩ : Tk)])) M 3 (wn_none rfl) rfl rfl rfl rfl rfl rfl (M.rdBlk 0 rfl rfl) underlying31 FJ rfl AU (BG rfl) (Nat.le_refl _) (Nat.le_refl _) CX (by unfold maxLen; first | omega | (simp; omega)) (by simp) (by first | exact (AT _ _ _).symm | simp [AB, Tk.cells]) fun A112 c112 w22 M => yb rfl (sxl_nil (qx_block_normal (qx_seq (sx_region (C1 rfl rfl (yb rfl (sxl_nil (fag ⟨k + 1, acc2 ++ [(⟨(nx + (1 : Int)), z.at_, [], clock, ((c.atf z.at_).tries), [], 0, 0, 0⟩ : Tk)], A112, c112, (nx + (1 : Int)), rfl, (M.pk [3, 4, 5]), ?_, ?_, ?_, ?_, rfl⟩))))))))))
       ·omega
       ·rw [AJ hz, List.filter_append, hac2]
        first
         | (rw [L4 h75]; simp)
         | (rw [L3 h75, JO, ← hnx.1, List.append_assoc]; first
          | (rw [QE h84] <;> rfl)
          | (rw [LX h84 h104] <;> rfl)
          | (rw [QD h84 h104] <;> rfl))
       ·rw [AJ hz, List.filter_append]
        first
         | (rw [L4 h75]; simpa using hnx)
         | (rw [L3 h75, List.length_append]; refine ⟨?_, by omega⟩; rw [hnx.1]; simp; omega)
       ·first
         | omega
         | (simp; omega)
      ·have h84p := (odt (BJ h84))
       refine AC rfl (B2 M 1 rfl rfl rfl (AG rfl (AF rfl (fun h104 => ?_) (fun h104 => ?_))))
       ·refine sx_region (yb rfl (gp1 M 0 rfl rfl rfl JK fun w23 M => yb rfl (gp1 M 0 rfl rfl rfl K1 fun w24 M => sxl_nil (qx_block_normal (qx_seq (sx_region (yb rfl (DO M 0 rfl rfl underlying56 B1 rfl (CU M (wn_none rfl) rfl rfl [.agg #[AA (nx + (1 : Int)), str [], str z.flow, AA 0, AA 0, str [], AA 0, .int .u8 1, AA 91]] ([AA (nx + (1 : Int)), str [], str z.flow, AA 0, AA 0, str [], AA 0, .int .u8 1, AA 91]) rfl rfl rfl rfl underlying31 HN rfl rfl (EZ rfl) rfl fun g111 w25 hg111 M => DC (len' := (acc2 ++ [(⟨(nx + (1 : Int)), [], z.flow, 0, 0, [], 0, 1, 91⟩ : Tk)]).length) (xs' := AB Tk.cells (acc2 ++ [(⟨(nx + (1 : Int)), [], z.flow, 0, 0, [], 0, 1, 91⟩ : Tk)])) M 3 (wn_none rfl) rfl rfl rfl rfl rfl rfl (M.rdBlk 0 rfl rfl) underlying31 FJ rfl AU (BG rfl) (Nat.le_refl _) (Nat.le_refl _) CX (by unfold maxLen; first | omega | (simp; omega)) (by simp) (by first | exact (AT _ _ _).symm | simp [AB, Tk.cells]) ?_)))))))))
        intro A112 c112 w26 M
        refine yb rfl (sxl_nil (qx_block_normal (qx_seq (sx_region (C1 rfl rfl (yb rfl (sxl_nil (fag ⟨k + 1, acc2 ++ [(⟨(nx + (1 : Int)), [], z.flow, 0, 0, [], 0, 1, 91⟩ : Tk)], A112, c112, (nx + (1 : Int)), rfl, (M.pk [3, 4, 5]), ?_, ?_, ?_, ?_, rfl⟩))))))))
        ·omega
        ·rw [AJ hz, List.filter_append, hac2]
         first
          | (rw [L4 h75]; simp)
          | (rw [L3 h75, JO, ← hnx.1, List.append_assoc]; first
           | (rw [QE h84] <;> rfl)
           | (rw [LX h84 h104] <;> rfl)
           | (rw [QD h84 h104] <;> rfl))
        ·rw [AJ hz, List.filter_append]
         first
          | (rw [L4 h75]; simpa using hnx)
          | (rw [L3 h75, List.length_append]; refine ⟨?_, by omega⟩; rw [hnx.1]; simp; omega)
        ·first
          | omega
          | (simp; omega)
       ·refine sx_skip (qx_block_normal (qx_seq (sx_region (yb rfl (DO M 0 rfl rfl underlying56 B1 rfl (CU M (wn_none rfl) rfl rfl [.agg #[AA (nx + (1 : Int)), str [], str z.flow, AA 0, AA 0, str [], AA 0, .int .u8 0, AA 0]] ([AA (nx + (1 : Int)), str [], str z.flow, AA 0, AA 0, str [], AA 0, .int .u8 0, AA 0]) rfl rfl rfl rfl underlying31 HN rfl rfl (EZ rfl) rfl fun g111 w27 hg111 M => DC (len' := (acc2 ++ [(⟨(nx + (1 : Int)), [], z.flow, 0, 0, [], 0, 0, 0⟩ : Tk)]).length) (xs' := AB Tk.cells (acc2 ++ [(⟨(nx + (1 : Int)), [], z.flow, 0, 0, [], 0, 0, 0⟩ : Tk)])) M 3 (wn_none rfl) rfl rfl rfl rfl rfl rfl (M.rdBlk 0 rfl rfl) underlying31 FJ rfl AU (BG rfl) (Nat.le_refl _) (Nat.le_refl _) CX (by unfold maxLen; first | omega | (simp; omega)) (by simp) (by first | exact (AT _ _ _).symm | simp [AB, Tk.cells]) fun A112 c112 w28 M => yb rfl (sxl_nil (qx_block_normal (qx_seq (sx_region (C1 rfl rfl ?_)))))))))))
        refine yb rfl (sxl_nil (fag ⟨k + 1, acc2 ++ [(⟨(nx + (1 : Int)), [], z.flow, 0, 0, [], 0, 0, 0⟩ : Tk)], A112, c112, (nx + (1 : Int)), rfl, (M.pk [3, 4, 5]), ?_, ?_, ?_, ?_, rfl⟩))
        ·omega
        ·rw [AJ hz, List.filter_append, hac2]
         first
          | (rw [L4 h75]; simp)
          | (rw [L3 h75, JO, ← hnx.1, List.append_assoc]; first
           | (rw [QE h84] <;> rfl)
           | (rw [LX h84 h104] <;> rfl)
           | (rw [QD h84 h104] <;> rfl))
        ·rw [AJ hz, List.filter_append]
         first
          | (rw [L4 h75]; simpa using hnx)
          | (rw [L3 h75, List.length_append]; refine ⟨?_, by omega⟩; rw [hnx.1]; simp; omega)
        ·first
          | omega
          | (simp; omega)
   ·have h70p := (odf h70)
    refine sx_exit (qx_then_exit (qx_then_exit ?_))
    obtain rfl : k = ls.length := by omega
    rw [List.take_length] at hac2 hnx
    refine qx_block_hit (qx_seq (srg ?_))
    iterate 5 refine yb rfl ?_
    refine gnr (QC rfl rfl rfl rfl ?_)
    have hR : JM c kept ls next clock = acc2 := by rw [JM, ← hacc1, hac2]
    rw [hnx.1]
    refine ⟨ls, hpl, M.fr, .inr ⟨by omega, A13, c13, by rw [hR], ?_⟩⟩
    rw [hR]
    exact M.own 0 rfl
end Go.Proofs.YtaheakjfkpkefaaGreatDoor
