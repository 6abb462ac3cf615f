/- Lemmas that the last text rests on. Condition: each says its own. -/
import Derived.Test.YtjaocmocdhckaaaGreatDoorZMw5
import Derived.Test.YtjaocmocdhckaaaGreatDoorZSst
import Derived.Test.YtjaocmocdhckaaaGreatDoorZMiP
set_option maxHeartbeats 16000000
set_option maxRecDepth 100000
namespace Go.Proofs.YtjaocmocdhckaaaGreatDoor
open Go.RowKit
open Tryz
theorem aA {e : Env} {w : World} {o : Oper} {x : Operand} {b : El} (ho : o.op = .field 69 x 10) (hx : ev e x = some (.agg b.cells.toArray)) : Y prog e o w (.int .i64 b.tries) := fun ρ h => by
 unfold execOp
 simp [ho, h _ _ hx, Instr.field, run_underlying underlying69, asAgg, part, isAgg3, El.cells]
def MH (l : List Ar) (k : Int) : Bool := l.any fun a => decide (a.rests = k) && decide (0 < a.rests)
theorem lN {l l' : List Ar} {f : Int → Option Value} {z : Ar} (h : ∀ k, (f k).getD (.bool false) = .bool (MH l k)) (hl : l' = l ++ [z]) : ∀ k, (upd f z.rests (.bool (decide ((0 : Int) < z.rests))) k).getD (.bool false) = .bool (MH l' k) := fun k => by
 subst hl
 unfold upd
 by_cases hk : k = z.rests
 ·rw [if_pos hk]
  have h1 : MH (l ++ [z]) k = (MH l k || decide (0 < z.rests)) := by unfold MH; rw [List.any_append]; simp [hk]
  rw [h1]
  by_cases h0 : 0 < z.rests
  ·rw [decide_eq_true h0, Bool.or_true]; rfl
  ·have h2 : MH l k = false := by
    unfold MH
    rw [List.any_eq_false]
    intro a _
    simp only [Bool.and_eq_true, decide_eq_true_eq, not_and]
    omega
   rw [h2, decide_eq_false h0]; rfl
 ·rw [if_neg hk, h k]
  congr 1
  unfold MH
  rw [List.any_append]
  have : ¬ z.rests = k := fun e => hk e.symm
  simp [this]
def XH (c : CrA) (clock id : Int) (a : Ar) : Tk := if (!decide (a.at_ = [])) = true then ⟨id, a.at_, [], clock, (c.atf a.at_).tries, [], 0, 0, 0⟩ else if a.stops = true then ⟨id, [], a.flow, 0, 0, [], 0, 1, 91⟩ else ⟨id, [], a.flow, 0, 0, [], 0, 0, 0⟩
section
variable {c : CrA} {clock id : Int} {a : Ar}
theorem PY (h : (!decide (a.at_ = [])) = true) : XH c clock id a = ⟨id, a.at_, [], clock, (c.atf a.at_).tries, [], 0, 0, 0⟩ := if_pos h
theorem M7 (h : (!decide (a.at_ = [])) = false) (h2 : a.stops = true) : XH c clock id a = ⟨id, [], a.flow, 0, 0, [], 0, 1, 91⟩ := by rw [XH, if_neg (AS h), if_pos h2]
theorem PX (h : (!decide (a.at_ = [])) = false) (h2 : a.stops = false) : XH c clock id a = ⟨id, [], a.flow, 0, 0, [], 0, 0, 0⟩ := by rw [XH, if_neg (AS h), if_neg (AS h2)]
end
def VO (c : CrA) (clock : Int) : Int → List Ar → List Tk
 | _, [] => []
 | n, a :: r => XH c clock (n + 1) a :: VO c clock (n + 1) r
theorem JV (c : CrA) (clock : Int) (a : Ar) : ∀ (l : List Ar) (n : Int), VO c clock n (l ++ [a]) = VO c clock n l ++ [XH c clock (n + (l.length : Int) + 1) a]
 | [], n => by simp [VO]
 | b :: r, n => by
  rw [List.cons_append, VO, VO, JV c clock a r (n + 1), List.cons_append]
  congr 3
  simp only [List.length_cons]; congr 1; omega
def JT (c : CrA) (kept : List Tk) (ls : List Ar) (next clock : Int) : List Tk := kept.filter (fun t : Tk => (!decide (t.loc = [])) || MH ls t.id) ++ VO c clock next (ls.filter (fun a : Ar => !decide (0 < a.rests)))
theorem LD {z : Ar} (h : decide ((0 : Int) < z.rests) = false) : [z].filter (fun a : Ar => !decide (0 < a.rests)) = [z] := by simp [h]
theorem LG {z : Ar} (h : decide ((0 : Int) < z.rests) = true) : [z].filter (fun a : Ar => !decide (0 < a.rests)) = [] := by simp [h]
theorem gP {ls : List Ar} {y : Tk} (h : ((!decide (y.loc = [])) || MH ls y.id) = true) : [y].filter (fun t : Tk => (!decide (t.loc = [])) || MH ls t.id) = [y] := by simp only [List.filter_cons, List.filter_nil, h, if_true]
theorem gQ {ls : List Ar} {y : Tk} (h : ((!decide (y.loc = [])) || MH ls y.id) = false) : [y].filter (fun t : Tk => (!decide (t.loc = [])) || MH ls t.id) = [] := by simp only [List.filter_cons, List.filter_nil, h]; rfl
theorem W8 {α : Type} (p : α → Bool) {l : List α} {k : Nat} {z : α} (hz : l[k]? = some z) (hp : p z = true) : ((l.take k).filter p).length + 1 ≤ (l.filter p).length := by
 have h1 : l = l.take k ++ z :: l.drop (k + 1) := by rw [← B5 hz, List.take_append_drop]
 conv => rhs; rw [h1]
 rw [List.filter_append, List.filter_cons_of_pos hp, List.length_append, List.length_cons]; omega
theorem LV (a0 : Int) (a1 : List UInt8) (a3 : Int) (a4 : Int) : prog.built 43 [(0, .int .i64 a0), (1, str a1), (3, .int .i64 a3), (4, .int .i64 a4)] = some #[.int .i64 a0, str a1, str [], .int .i64 a3, .int .i64 a4, str [], .int .i64 0, .int .u8 0, .int .i64 0] := by kernel_rfl
theorem I5 : (prog.info? 43).map (fun i => (i.zero, i.size)) = some (some (.agg #[.int .i64 0, str [], str [], .int .i64 0, .int .i64 0, str [], .int .i64 0, .int .u8 0, .int .i64 0]), 9) := by kernel_rfl
theorem gY (x : Int) (w : World) : Calls prog 152 #[.int .i64 x] w fun e w' => e = .returned (.bool (!(decide (x = x)))) ∧ Fr0 w w' := by
 refine C2 func152 ntmps152 rfl fun M => srg (yb rfl (nq (srg (yb rfl (yb rfl (D4 rfl rfl (yb rfl (nq (AI (gr1 rfl ?_))))))))))
 exact ⟨rfl, M.fr⟩
def OC (x y : Int) : Int := (if (!(decide (x = x))) = true then (if (!(decide (y = y))) = true then 0 else (-1)) else (if (!(decide (y = y))) = true then 1 else (if (decide (x < y)) = true then (-1) else (if (decide (y < x)) = true then 1 else 0))))
theorem WJ (x y : Int) (w : World) : Calls prog 119 #[.int .i64 x, .int .i64 y] w fun e w' => e = .returned (.int .i64 (OC x y)) ∧ Fr0 w w' := by
 refine C2 func119 ntmps119 rfl fun M => srg (yb rfl (nq (srg (yb rfl (D1 M 8 rfl rfl call152 (gY x _) fun w1 M => yb rfl (nq (srg (yb rfl ?_))))))))
 refine D1 M 10 rfl rfl call152 (gY y _) fun w2 M => yb rfl (AC (AA (AD (AD (AB (yb rfl (AC (AA (AN rfl (fun h11 => ?_) (fun h11 => ?_))))))))))
 ·refine AD (AD (AB (yb rfl (AC (AA (AN rfl (fun h12 => ?_) (fun h12 => ?_)))))))
  ·exact srg (yb rfl (nq (AI (AE (AE (gr1 rfl ⟨by rw [OC, if_pos h11, if_pos h12] <;> rfl, M.fr⟩))))))
  ·exact AL (AA (srg (yb rfl (nq (AI (AE (gr1 rfl ⟨by rw [OC, if_pos h11, if_neg (AS h12)] <;> rfl, M.fr⟩)))))))
 ·refine AL (AA (AD (AD (AB (yb rfl (AC (AA (AN rfl (fun h13 => ?_) (fun h13 => ?_)))))))))
  ·exact srg (yb rfl (nq (AI (AE (gr1 rfl ⟨by rw [OC, if_neg (AS h11), if_pos h13] <;> rfl, M.fr⟩)))))
  ·refine AL (AA (AD (AD (AB (yb rfl (yb rfl (CB rfl rfl (AC (AA (AN rfl (fun h16 => ?_) (fun h16 => ?_)))))))))))
   ·exact srg (yb rfl (nq (AI (AE (gr1 rfl ⟨by rw [OC, if_neg (AS h11), if_neg (AS h13), if_pos h16] <;> rfl, M.fr⟩)))))
   ·refine AL (AA (AD (AD (AB (yb rfl (yb rfl (LM rfl rfl (AC (AA (AN rfl (fun h19 => ?_) (fun h19 => ?_)))))))))))
    ·exact srg (yb rfl (nq (AI (AE (gr1 rfl ⟨by rw [OC, if_neg (AS h11), if_neg (AS h13), if_neg (AS h16), if_pos h19] <;> rfl, M.fr⟩)))))
    ·exact AL (AA (srg (yb rfl (nq (AI (gr1 rfl ⟨by rw [OC, if_neg (AS h11), if_neg (AS h13), if_neg (AS h16), if_neg (AS h19)] <;> rfl, M.fr⟩))))))
theorem XC (a b : Ar) (w : World) : Calls prog 118 #[.agg a.cells.toArray, .agg b.cells.toArray] w fun e w' => e = .returned (.int .i64 (OC a.order b.order)) ∧ Fr0 w w' := by
 refine C2 func118 ntmps118 rfl fun M => srg (CN M rfl rfl fun g2 w1 hg2 M => CN M rfl rfl fun g3 w2 hg3 M => yb rfl (nq (srg (yb rfl (BA M 1 rfl rfl rfl (yb rfl (BA M 0 rfl rfl rfl ?_)))))))
 exact D1 M 9 rfl rfl call119 (WJ a.order b.order _) fun w3 M => yb rfl (nq (AI (gr1 rfl ⟨rfl, M.fr⟩)))
theorem aV (m : Md) (gc : Nat) (c : CrA) (F : List Nat) (V : Option Addr) (vn vc gx : Nat) (σ : Mo) (F' : List Nat) (K : Option Addr) (kc : Nat) (kept : List Tk) (next clock : Int) (w : World) (h1 : σ.on.length ≤ 500000) (h2 : σ.done.length ≤ 400000) (h3 : kept.length ≤ 400000) (hn1 : 0 ≤ next) (hn2 : next ≤ 2147483647) (hC : CourseN w m gc c F) (hN : MoN w gc V vn vc gx σ F') (hK : Rd w K (kept.length * 9) (AK Tk.cells kept)) :
 Calls prog 62 #[pg gx, .slice K kept.length kc, .int .i64 next, .int .i64 clock] w fun e w' => ∃ ls : List Ar, ls.Perm (σ.on ++ σ.done) ∧ Fr0 w w' ∧ ((2147483647 < next + ((ls.filter (fun a : Ar => !decide (0 < a.rests))).length : Int) ∧ e = .returned (.tuple #[.slice none 0 0, .int .i64 0, .int .i64 3])) ∨ (next + ((ls.filter (fun a : Ar => !decide (0 < a.rests))).length : Int) ≤ 2147483647 ∧ ∃ A c', e = .returned (.tuple #[.slice A (JT c kept ls next clock).length c', .int .i64 (next + ((ls.filter (fun a : Ar => !decide (0 < a.rests))).length : Int)), .int .i64 0]) ∧ w'.ownsRow w.heap.size 43 9 (.slice A (JT c kept ls next clock).length c') (JT c kept ls next clock).length (AK Tk.cells (JT c kept ls next clock)))) := by
 obtain ⟨on, dn, fi, cm⟩ := σ
 obtain ⟨_, _, x, Mx⟩ := hN
 dsimp only at h1 h2 Mx
 have hbx := Mx.blk 0 rfl
 have hon := Mx.rdOwn 1 rfl
 have hdn := Mx.rdOwn 2 rfl
 refine C2 func62 ntmps62 rfl fun M => srg (yb rfl (yb rfl (yb rfl (nq (AD (CO 11 (fun w' => Mem w AV [] w') CU ?_))))))
 have M := M.drew
 refine oc 0 11 rfl rfl M (oc 1 11 rfl rfl M (oc 2 11 rfl rfl M (ol 3 11 rfl rfl rfl M (fun _ M => (Blk.c (hbx.fr0 M.fr) 2 rfl)) (oc 5 11 rfl rfl M (oc 6 11 rfl rfl M (oc 7 11 rfl rfl M (ol 8 11 rfl rfl rfl M (fun _ M => (Blk.c (hbx.fr0 M.fr) 3 rfl)) (C0 4 (some 25) gkr rfl (AF rfl) rfl rfl (AQ rfl rfl call116) (ZN x.A x.a on _ AO (hon.fr0 M.fr)) ?_))))))))
 rintro _ w1 ⟨A25, c25, rfl, how1, hfw1⟩
 refine ⟨_, rfl, fun _ => M.step hfw1, ?_⟩
 have M := M.pushOwn hfw1 (Nat.le_refl _) how1
 refine B7 9 (some 30) gkr rfl (AF rfl) rfl rfl (fun ρ hρ => DI _ _ _ rfl w.heap.size _ _ _ _ underlying122 FB rfl BR _ _ _ (hρ _ _ rfl) (M.own 0 rfl) _ _ _ _ (hρ _ _ rfl) (hdn.fr0 M.fr) (EG Ar.cells_one) (by unfold maxLen; first | omega | (simp; omega)) (by first | omega | (simp; omega)) M.fr.size) ?_
 rintro v30 w2 ⟨ho30, hgr30, hvb30⟩
 replace ho30 : World.ownsRow w2 w.heap.size 126 5 v30 ((on ++ dn).length) (AK Ar.cells (on ++ dn)) := by rw [show ((on ++ dn).length) = on.length + dn.length from by simp, show (AK Ar.cells (on ++ dn)) = (AK Ar.cells on) ++ (AK Ar.cells dn) from by first | exact BY _ _ _ | simp [AK, Ar.cells]]; exact ho30
 have M := M.appOwn 0 rfl ho30 hgr30 hvb30
 obtain ⟨A30, c30, rfl, _⟩ := E1 ho30
 refine ⟨fun _ => (M.drop 1), oc 10 11 rfl rfl (M.drop 1) (fdn (AA (srg (yb rfl (cl 32 rfl (AQ rfl rfl call117) (eU w.heap.size A30 c30 ((on ++ dn).length) 118 (fun a b => OC a.order b.order) (on ++ dn) _ call118 (fun a b w => XC a b w) (by simp; omega) rfl (M.own 0 rfl)) ?_)))))⟩
 rintro _ w3 ⟨rfl, ls, hpl, how3, hfw3⟩
 refine ⟨_, rfl, ?_⟩
 have M := M.upd 0 rfl hfw3 (As.own _ 126 5 (.slice A30 ((on ++ dn).length) c30) ((on ++ dn).length) (AK Ar.cells ls)) how3 (fun g hg => .inl hg)
 have hll : ls.length = (on ++ dn).length := hpl.length_eq
 have hlb : ls.length ≤ 900000 := by rw [hll]; simp; omega
 rw [← hll] at M ⊢
 refine nq (srg (yb rfl (nq (srg (aM M (AF rfl) rfl rfl rfl fun g33 w4 hg33 M => yb rfl (nq (AD (AD ?_))))))))
 refine AB (yb rfl (ya rfl (C7 rfl rfl (sl rfl)) (yb rfl (nq (AR (flp [35, 34, 13, 12, 11, 3, 2, 1, 0] (fun ze e wr mz => ∃ (i : Nat) (f : Int → Option Value), e = (36, .int .i64 ((i : Nat) : Int)) :: ze ∧ Mem w AV [As.mi g33 f, As.own w.heap.size 126 5 (.slice A30 ls.length c30) ls.length (AK Ar.cells ls)] wr ∧ (i ≤ ls.length) ∧ (∀ k, (f k).getD (.bool false) = .bool (MH (ls.take i) k)) ∧ mz = ls.length - i) ⟨0, _, rfl, M, Nat.zero_le _, fun _ => rfl, rfl⟩ ?_))))))
 rintro _ w5 _ ⟨i, f, rfl, M, hi, hf, rfl⟩
 refine AD (AB (CB rfl rfl (AC (AA (AD (AN rfl (fun h37 => ?_) (fun h37 => ?_)))))))
 ·have h37p := (odt h37)
  refine AL (AA (AD (AR (srg ?_))))
  obtain ⟨z, hz⟩ := CA (l := ls) (i := i) AO
  obtain ⟨b_z, o_z, hA_z⟩ := BI (k := 5) AO (M.rdOwn 1 rfl) hz
  refine ya rfl (B1 i hA_z rfl rfl rfl (sl rfl) AO) (ya rfl (AT rfl rfl (BQ Ar.len (M.rdOwn 1 rfl) hA_z hz) underlying126 rfl B6) (D6 M rfl FY fun g15 w6 hg15 M => C1 M 0 rfl rfl B6 rfl fun w7 M => nq (AB (yb rfl (yb rfl (BA M 0 rfl rfl rfl (yb rfl (BA M 0 rfl rfl rfl (LM rfl rfl (eD M 1 (AF rfl) rfl rfl rfl rfl rfl underlying171 underlying3 rfl ?_))))))))))
  intro w8 M
  refine AC (AH (AA (AB (ya rfl (BF rfl rfl rfl AO) (yb rfl (AC (fag ⟨i + 1, (upd f z.rests (.bool (decide ((0 : Int) < z.rests)))), rfl, (M.pk [1, 2]), ?_, ?_, rfl⟩)))))))
  ·omega
  ·exact lN hf (B2 hz)
 ·have h37p := (odf h37)
  refine BG (AJ (AJ ?_))
  obtain rfl : i = ls.length := by omega
  have hF := hf
  simp only [List.take_length] at hF
  refine AY (AA (AD (srg (yb rfl (ya rfl (C7 rfl rfl (sl rfl)) (yb rfl (nq (AR ?_))))))))
  have M := M.nilOwn 43 9
  refine flp [48, 47, 13, 11, 3, 2, 0] (fun ze e wr mz => ∃ (j : Nat) (acc : List Tk) (A12 : Option Addr) (c12 : Nat), e = (12, .slice A12 acc.length c12) :: (49, .int .i64 ((j : Nat) : Int)) :: ze ∧ Mem w AV [As.own w.heap.size 43 9 (.slice A12 acc.length c12) acc.length (AK Tk.cells acc), As.mi g33 f, As.own w.heap.size 126 5 (.slice A30 ls.length c30) ls.length (AK Ar.cells ls)] wr ∧ (j ≤ kept.length) ∧ (acc = (kept.take j).filter (fun t : Tk => (!decide (t.loc = [])) || MH ls t.id)) ∧ (acc.length ≤ j) ∧ mz = kept.length - j) ⟨0, [], none, 0, rfl, M, Nat.zero_le _, rfl, Nat.le_refl _, rfl⟩ ?_
  rintro _ w9 _ ⟨j, acc, A12, c12, rfl, M, hj, hacc, hal, rfl⟩
  refine AD (AB (CB rfl rfl (AC (AA (AD (AN rfl (fun h50 => ?_) (fun h50 => ?_)))))))
  ·have h50p := (odt h50)
   refine AL (AA (AD (AR (srg ?_))))
   obtain ⟨y, hy⟩ := CA (l := kept) (i := j) AO
   obtain ⟨b_y, o_y, hA_y⟩ := BI (k := 9) AO (hK.fr0 M.fr) hy
   refine ya rfl (B1 j hA_y rfl rfl rfl (sl rfl) AO) (ya rfl (AT rfl rfl (BQ Tk.len (hK.fr0 M.fr) hA_y hy) underlying43 rfl BB) (D6 M rfl EX fun g17 w10 hg17 M => C1 M 0 rfl rfl BB rfl fun w11 M => AC (AA (AD (AB (yb rfl (BA M 0 rfl rfl rfl (ya rfl (GK rfl rfl rfl) (yb rfl (fvm M 5 [17, 49, 48, 47, 13, 12, 11, 3, 2, 0] [(61, .bool ((!decide (y.loc = [])) || (MH ls y.id)))] ?_ (fun k56 => ?_)))))))))))
   ·intro w12 M
    refine AC (AA (AN rfl (fun h61 => ?_) (fun h61 => ?_)))
    ·have h61p := ((EJ h61).imp (fun z => (odf (CE z))) (fun z => z))
     refine AB (yb rfl (CR M 0 rfl rfl underlying43 BB rfl (DA M (AF rfl) rfl rfl [.agg (Tk.cells y).toArray] (Tk.cells y) rfl rfl rfl rfl underlying27 I5 rfl rfl (GX rfl) rfl fun g64 w13 hg64 M => ED (len' := (acc ++ [y]).length) (xs' := AK Tk.cells (acc ++ [y])) M 2 (AF rfl) rfl rfl rfl rfl rfl rfl (M.rdBlk 0 rfl rfl) underlying27 GB rfl BR (BL rfl) (Nat.le_refl _) (Nat.le_refl _) (by first | omega | (simp; omega)) (by unfold maxLen; first | omega | (simp; omega)) (by simp) (by first | exact (BY _ _ _).symm | simp [AK, Tk.cells]) fun A65 c65 w14 M => yb rfl (AC (AH (AA (AB (ya rfl (BF rfl rfl rfl AO) (yb rfl (AC (fag ⟨j + 1, acc ++ [y], A65, c65, rfl, (M.pk [2, 3, 4]), ?_, ?_, ?_, rfl⟩)))))))))))
     ·omega
     ·rw [B2 hy, List.filter_append, ← hacc]
      first
       | rw [gP h61]
       | (rw [gQ h61]; simp)
     ·first
       | omega
       | (simp; omega)
    ·have h61p := (And.intro (odt (BM (CL h61).1)) (CL h61).2)
     refine AL (AH (AA (AB (ya rfl (BF rfl rfl rfl AO) (yb rfl (AC (fag ⟨j + 1, acc, A12, c12, rfl, (M.pk [1, 2, 3]), ?_, ?_, ?_, rfl⟩)))))))
     ·omega
     ·rw [B2 hy, List.filter_append, ← hacc]
      first
       | rw [gP h61]
       | (rw [gQ h61]; simp)
     ·first
       | omega
       | (simp; omega)
   refine AP (d := 56) rfl (fun h56 => ?_) (fun h56 => ?_)
   ·iterate 4 refine yo rfl ?_
    exact yb rfl (k56 M ⟨rfl, rfl, rfl, rfl, rfl, rfl, rfl, rfl, rfl, rfl, (by rw [h56]; rfl), trivial⟩)
   ·exact gyq rfl (gyq rfl (CH M 0 rfl rfl rfl (yd rfl (cY rfl rfl rfl underlying171 underlying3 NE (M.ok 2 _ rfl : Mi _ _ _) (hF y.id)) (yb rfl (k56 M ⟨rfl, rfl, rfl, rfl, rfl, rfl, rfl, rfl, rfl, rfl, (by rw [h56]; rfl), trivial⟩)))))
  ·have h50p := (odf h50)
   refine BG (AJ (AJ ?_))
   obtain rfl : j = kept.length := by omega
   have hacc1 := hacc
   rw [List.take_length] at hacc1
   refine AY (AA (AD (srg (yb rfl (ya rfl (C7 rfl rfl (sl rfl)) (yb rfl (nq (AR (flp [68, 67, 3, 0] (fun ze e wr mz => ∃ (k : Nat) (acc2 : List Tk) (A13 : Option Addr) (c13 : Nat) (nx : Int), e = (2, .int .i64 nx) :: (12, .slice A13 acc2.length c13) :: (69, .int .i64 ((k : Nat) : Int)) :: ze ∧ Mem w AV [As.own w.heap.size 43 9 (.slice A13 acc2.length c13) acc2.length (AK Tk.cells acc2), As.mi g33 f, As.own w.heap.size 126 5 (.slice A30 ls.length c30) ls.length (AK Ar.cells ls)] wr ∧ (k ≤ ls.length) ∧ (acc2 = acc ++ VO c clock next ((ls.take k).filter (fun a : Ar => !decide (0 < a.rests)))) ∧ (nx = next + (((ls.take k).filter (fun a : Ar => !decide (0 < a.rests))).length : Int) ∧ nx ≤ 2147483647) ∧ (acc2.length ≤ kept.length + k) ∧ mz = ls.length - k) ⟨0, acc, A12, c12, next, rfl, M, Nat.zero_le _, (List.append_nil _).symm, ⟨(Int.add_zero _).symm, hn2⟩, by omega, rfl⟩ ?_)))))))))
   rintro _ w15 _ ⟨k, acc2, A13, c13, nx, rfl, M, hk, hac2, hnx, hal2, rfl⟩
   refine AD (AB (CB rfl rfl (AC (AA (AD (AN rfl (fun h70 => ?_) (fun h70 => ?_)))))))
   ·have h70p := (odt h70)
    refine AL (AA (AD (AR (srg ?_))))
    obtain ⟨z, hz⟩ := CA (l := ls) (i := k) AO
    obtain ⟨b_z, o_z, hA_z⟩ := BI (k := 5) AO (M.rdOwn 2 rfl) hz
    refine ya rfl (B1 k hA_z rfl rfl rfl (sl rfl) AO) (ya rfl (AT rfl rfl (BQ Ar.len (M.rdOwn 2 rfl) hA_z hz) underlying126 rfl B6) (D6 M rfl FY fun g19 w16 hg19 M => C1 M 0 rfl rfl B6 rfl fun w17 M => nq (AD (srg (yb rfl (BA M 0 rfl rfl rfl (LM rfl rfl (nq ?_))))))))
    refine AN rfl (fun h75 => ?_) (fun h75 => ?_)
    ·have h75p := (odt h75)
     refine BG (AJ (AY (AA (AB (ya rfl (BF rfl rfl rfl AO) (yb rfl (AC (fag ⟨k + 1, acc2, A13, c13, nx, rfl, (M.pk [1, 2, 3]), ?_, ?_, ?_, ?_, rfl⟩))))))))
     ·omega
     ·rw [B2 hz, List.filter_append, hac2]
      first
       | (rw [LG h75]; simp)
       | (rw [LD h75, JV, ← hnx.1, List.append_assoc]; first
        | (rw [PY h84] <;> rfl)
        | (rw [M7 h84 h104] <;> rfl)
        | (rw [PX h84 h104] <;> rfl))
     ·rw [B2 hz, List.filter_append]
      first
       | (rw [LG h75]; simpa using hnx)
       | (rw [LD h75, List.length_append]; refine ⟨?_, by omega⟩; rw [hnx.1]; simp; omega)
     ·first
       | omega
       | (simp; omega)
    ·have h75p := (odf h75)
     refine AL (AA (AD (AD (AB (yb rfl (CI rfl rfl (AC (AA (AN rfl (fun h77 => ?_) (fun h77 => ?_))))))))))
     ·have h77p := (odt h77)
      refine srg (yb rfl (yb rfl (yb rfl (nq (AI (AE (AM (AE (AE (AM (AE (IM rfl rfl rfl rfl ⟨ls, hpl, M.fr, .inl ⟨?_, rfl⟩⟩))))))))))))
      have h1 := W8 (fun a : Ar => !decide (0 < a.rests)) hz (by rw [h75]; rfl)
      have h2 := hnx.1
      omega
     ·have h77p := (odf h77)
      refine AL (AA (srg (yb rfl (ya rfl (BF rfl rfl rfl AO) (yb rfl (nq (srg (yb rfl (yb rfl (BA M 0 rfl rfl rfl (ya rfl (B9 (parts := [(0, _), (2, _)]) rfl rfl (K6 _ _)) (D6 M rfl EX ?_))))))))))))
      intro g20 w18 hg20 M
      refine C1 M 0 rfl rfl BB rfl fun w19 M => AC (AA (AD (AR (AD (AB (yb rfl (BA M 1 rfl rfl rfl (ya rfl (GK rfl rfl rfl) (yb rfl (AC (AA (AN rfl (fun h84 => ?_) (fun h84 => ?_)))))))))))))
      ·have h84p := (odf (CE h84))
       refine DN 16 CU gkr ?_
       have M := M.drew
       refine sb rfl (sb rfl (FK M 1 rfl rfl rfl ?_))
       iterate 4 refine sb rfl ?_
       refine sd rfl rfl (Blk.c (hbx.fr0 M.fr) 0 rfl) (sb rfl (sb rfl (sd rfl rfl (Blk.c ((hC.fr0 M.fr).blk) 5 rfl) (sb rfl (FK M 1 rfl rfl rfl (sa rfl (BP rfl rfl rfl underlying62 underlying9 B4 ((hC.fr0 M.fr).A) (hC.getA _)) (sa rfl (aA (b := (c.atf z.at_)) rfl rfl) (sa rfl (B9 (parts := [(0, _), (1, _), (3, _), (4, _)]) rfl rfl (LV _ _ _ _)) (CS (C1 M 0 rfl rfl BB rfl fun w20 M => AC (AH (AA (AB ?_)))))))))))))
       refine yb rfl (CR M 0 rfl rfl underlying43 BB rfl (DA M (AF rfl) rfl rfl [.agg #[.int .i64 (nx + (1 : Int)), str z.at_, str [], .int .i64 clock, .int .i64 ((c.atf z.at_).tries), str [], .int .i64 0, .int .u8 0, .int .i64 0]] ([.int .i64 (nx + (1 : Int)), str z.at_, str [], .int .i64 clock, .int .i64 ((c.atf z.at_).tries), str [], .int .i64 0, .int .u8 0, .int .i64 0]) rfl rfl rfl rfl underlying27 I5 rfl rfl (GX rfl) rfl fun g111 w21 hg111 M => ED (len' := (acc2 ++ [(⟨(nx + (1 : Int)), z.at_, [], clock, ((c.atf z.at_).tries), [], 0, 0, 0⟩ : Tk)]).length) (xs' := AK Tk.cells (acc2 ++ [(⟨(nx + (1 : Int)), z.at_, [], clock, ((c.atf z.at_).tries), [], 0, 0, 0⟩ : Tk)])) M 3 (AF rfl) rfl rfl rfl rfl rfl rfl (M.rdBlk 0 rfl rfl) underlying27 GB rfl BR (BL rfl) (Nat.le_refl _) (Nat.le_refl _) (by first | omega | (simp; omega)) (by unfold maxLen; first | omega | (simp; omega)) (by simp) (by first | exact (BY _ _ _).symm | simp [AK, Tk.cells]) fun A112 c112 w22 M => yb rfl (AC (AH (AA (AB (ya rfl (BF rfl rfl rfl AO) (yb rfl (AC (fag ⟨k + 1, acc2 ++ [(⟨(nx + (1 : Int)), z.at_, [], clock, ((c.atf z.at_).tries), [], 0, 0, 0⟩ : Tk)], A112, c112, (nx + (1 : Int)), rfl, (M.pk [3, 4, 5]), ?_, ?_, ?_, ?_, rfl⟩))))))))))
       ·omega
       ·rw [B2 hz, List.filter_append, hac2]
        first
         | (rw [LG h75]; simp)
         | (rw [LD h75, JV, ← hnx.1, List.append_assoc]; first
          | (rw [PY h84] <;> rfl)
          | (rw [M7 h84 h104] <;> rfl)
          | (rw [PX h84 h104] <;> rfl))
       ·rw [B2 hz, List.filter_append]
        first
         | (rw [LG h75]; simpa using hnx)
         | (rw [LD h75, List.length_append]; refine ⟨?_, by omega⟩; rw [hnx.1]; simp; omega)
       ·first
         | omega
         | (simp; omega)
      ·have h84p := (odt (BM h84))
       refine AD (AB (yb rfl (BA M 1 rfl rfl rfl (yb rfl (AC (AA (AN rfl (fun h104 => ?_) (fun h104 => ?_))))))))
       ·refine AB (yb rfl (gp1 M 0 rfl rfl rfl JS fun w23 M => yb rfl (gp1 M 0 rfl rfl rfl KB fun w24 M => AC (AH (AA (AB (yb rfl (CR M 0 rfl rfl underlying43 BB rfl (DA M (AF rfl) rfl rfl [.agg #[.int .i64 (nx + (1 : Int)), str [], str z.flow, .int .i64 0, .int .i64 0, str [], .int .i64 0, .int .u8 1, .int .i64 91]] ([.int .i64 (nx + (1 : Int)), str [], str z.flow, .int .i64 0, .int .i64 0, str [], .int .i64 0, .int .u8 1, .int .i64 91]) rfl rfl rfl rfl underlying27 I5 rfl rfl (GX rfl) rfl fun g111 w25 hg111 M => ED (len' := (acc2 ++ [(⟨(nx + (1 : Int)), [], z.flow, 0, 0, [], 0, 1, 91⟩ : Tk)]).length) (xs' := AK Tk.cells (acc2 ++ [(⟨(nx + (1 : Int)), [], z.flow, 0, 0, [], 0, 1, 91⟩ : Tk)])) M 3 (AF rfl) rfl rfl rfl rfl rfl rfl (M.rdBlk 0 rfl rfl) underlying27 GB rfl BR (BL rfl) (Nat.le_refl _) (Nat.le_refl _) (by first | omega | (simp; omega)) (by unfold maxLen; first | omega | (simp; omega)) (by simp) (by first | exact (BY _ _ _).symm | simp [AK, Tk.cells]) ?_)))))))))
        intro A112 c112 w26 M
        refine yb rfl (AC (AH (AA (AB (ya rfl (BF rfl rfl rfl AO) (yb rfl (AC (fag ⟨k + 1, acc2 ++ [(⟨(nx + (1 : Int)), [], z.flow, 0, 0, [], 0, 1, 91⟩ : Tk)], A112, c112, (nx + (1 : Int)), rfl, (M.pk [3, 4, 5]), ?_, ?_, ?_, ?_, rfl⟩))))))))
        ·omega
        ·rw [B2 hz, List.filter_append, hac2]
         first
          | (rw [LG h75]; simp)
          | (rw [LD h75, JV, ← hnx.1, List.append_assoc]; first
           | (rw [PY h84] <;> rfl)
           | (rw [M7 h84 h104] <;> rfl)
           | (rw [PX h84 h104] <;> rfl))
        ·rw [B2 hz, List.filter_append]
         first
          | (rw [LG h75]; simpa using hnx)
          | (rw [LD h75, List.length_append]; refine ⟨?_, by omega⟩; rw [hnx.1]; simp; omega)
        ·first
          | omega
          | (simp; omega)
       ·refine AL (AH (AA (AB (yb rfl (CR M 0 rfl rfl underlying43 BB rfl (DA M (AF rfl) rfl rfl [.agg #[.int .i64 (nx + (1 : Int)), str [], str z.flow, .int .i64 0, .int .i64 0, str [], .int .i64 0, .int .u8 0, .int .i64 0]] ([.int .i64 (nx + (1 : Int)), str [], str z.flow, .int .i64 0, .int .i64 0, str [], .int .i64 0, .int .u8 0, .int .i64 0]) rfl rfl rfl rfl underlying27 I5 rfl rfl (GX rfl) rfl fun g111 w27 hg111 M => ED (len' := (acc2 ++ [(⟨(nx + (1 : Int)), [], z.flow, 0, 0, [], 0, 0, 0⟩ : Tk)]).length) (xs' := AK Tk.cells (acc2 ++ [(⟨(nx + (1 : Int)), [], z.flow, 0, 0, [], 0, 0, 0⟩ : Tk)])) M 3 (AF rfl) rfl rfl rfl rfl rfl rfl (M.rdBlk 0 rfl rfl) underlying27 GB rfl BR (BL rfl) (Nat.le_refl _) (Nat.le_refl _) (by first | omega | (simp; omega)) (by unfold maxLen; first | omega | (simp; omega)) (by simp) (by first | exact (BY _ _ _).symm | simp [AK, Tk.cells]) fun A112 c112 w28 M => yb rfl (AC (AH (AA (AB (ya rfl (BF rfl rfl rfl AO) ?_)))))))))))
        refine yb rfl (AC (fag ⟨k + 1, acc2 ++ [(⟨(nx + (1 : Int)), [], z.flow, 0, 0, [], 0, 0, 0⟩ : Tk)], A112, c112, (nx + (1 : Int)), rfl, (M.pk [3, 4, 5]), ?_, ?_, ?_, ?_, rfl⟩))
        ·omega
        ·rw [B2 hz, List.filter_append, hac2]
         first
          | (rw [LG h75]; simp)
          | (rw [LD h75, JV, ← hnx.1, List.append_assoc]; first
           | (rw [PY h84] <;> rfl)
           | (rw [M7 h84 h104] <;> rfl)
           | (rw [PX h84 h104] <;> rfl))
        ·rw [B2 hz, List.filter_append]
         first
          | (rw [LG h75]; simpa using hnx)
          | (rw [LD h75, List.length_append]; refine ⟨?_, by omega⟩; rw [hnx.1]; simp; omega)
        ·first
          | omega
          | (simp; omega)
   ·have h70p := (odf h70)
    refine BG (AJ (AJ ?_))
    obtain rfl : k = ls.length := by omega
    rw [List.take_length] at hac2 hnx
    refine AY (AA (srg ?_))
    iterate 5 refine yb rfl ?_
    refine nq (AI (IM rfl rfl rfl rfl ?_))
    have hR : JT c kept ls next clock = acc2 := by rw [JT, ← hacc1, hac2]
    rw [hnx.1]
    refine ⟨ls, hpl, M.fr, .inr ⟨by omega, A13, c13, by rw [hR], ?_⟩⟩
    rw [hR]
    exact M.own 0 rfl
end Go.Proofs.YtjaocmocdhckaaaGreatDoor
