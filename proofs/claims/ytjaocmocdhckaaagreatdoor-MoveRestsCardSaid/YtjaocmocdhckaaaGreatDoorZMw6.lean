/- Lemmas that the last text rests on. Condition: each says its own. -/
import Derived.Test.YtjaocmocdhckaaaGreatDoorZMw5
import Derived.Test.YtjaocmocdhckaaaGreatDoorZSst
import Derived.Test.YtjaocmocdhckaaaGreatDoorZMiP
set_option maxHeartbeats 16000000
set_option maxRecDepth 100000
namespace Go.Proofs.YtjaocmocdhckaaaGreatDoor
open Go.RowKit
open Tryz
theorem aZ {e : Env} {w : World} {o : Oper} {x : Operand} {b : El} (ho : o.op = .field 69 x 10) (hx : ev e x = some (.agg b.cells.toArray)) : Y prog e o w (AJ b.tries) := fun ρ h => by
 unfold execOp
 simp [ho, h _ _ hx, Instr.field, run_underlying underlying69, asAgg, part, isAgg3, El.cells]
def KU (l : List Ar) (k : Int) : Bool := l.any fun a => decide (a.rests = k) && decide (0 < a.rests)
theorem mH {l l' : List Ar} {f : Int → Option Value} {z : Ar} (h : ∀ k, (f k).getD (.bool false) = .bool (KU l k)) (hl : l' = l ++ [z]) : ∀ k, (upd f z.rests (.bool (decide ((0 : Int) < z.rests))) k).getD (.bool false) = .bool (KU l' k) := fun k => by
 subst hl
 unfold upd
 by_cases hk : k = z.rests
 ·rw [if_pos hk]
  have h1 : KU (l ++ [z]) k = (KU l k || decide (0 < z.rests)) := by unfold KU; rw [List.any_append]; simp [hk]
  rw [h1]
  by_cases h0 : 0 < z.rests
  ·rw [decide_eq_true h0, Bool.or_true]; rfl
  ·have h2 : KU l k = false := by
    unfold KU
    rw [List.any_eq_false]
    intro a _
    simp only [Bool.and_eq_true, decide_eq_true_eq, not_and]
    omega
   rw [h2, decide_eq_false h0]; rfl
 ·rw [if_neg hk, h k]
  congr 1
  unfold KU
  rw [List.any_append]
  have : ¬ z.rests = k := fun e => hk e.symm
  simp [this]
def KX (c : CrA) (clock id : Int) (a : Ar) : Tk := if (!decide (a.at_ = [])) = true then ⟨id, a.at_, [], clock, (c.atf a.at_).tries, [], 0, 0, 0⟩ else if a.stops = true then ⟨id, [], a.flow, 0, 0, [], 0, 1, 91⟩ else ⟨id, [], a.flow, 0, 0, [], 0, 0, 0⟩
section
variable {c : CrA} {clock id : Int} {a : Ar}
theorem MQ (h : (!decide (a.at_ = [])) = true) : KX c clock id a = ⟨id, a.at_, [], clock, (c.atf a.at_).tries, [], 0, 0, 0⟩ := if_pos h
theorem KB (h : (!decide (a.at_ = [])) = false) (h2 : a.stops = true) : KX c clock id a = ⟨id, [], a.flow, 0, 0, [], 0, 1, 91⟩ := by rw [KX, AT h, if_pos h2]
theorem OS (h : (!decide (a.at_ = [])) = false) (h2 : a.stops = false) : KX c clock id a = ⟨id, [], a.flow, 0, 0, [], 0, 0, 0⟩ := by rw [KX, AT h, AT h2]
end
def M5 (c : CrA) (clock : Int) : Int → List Ar → List Tk
 | _, [] => []
 | n, a :: r => KX c clock (n + 1) a :: M5 c clock (n + 1) r
theorem K9 (c : CrA) (clock : Int) (a : Ar) : ∀ (l : List Ar) (n : Int), M5 c clock n (l ++ [a]) = M5 c clock n l ++ [KX c clock (n + (l.length : Int) + 1) a]
 | [], n => by simp [M5]
 | b :: r, n => by
  rw [List.cons_append, M5, M5, K9 c clock a r (n + 1), List.cons_append]
  congr 3
  simp only [List.length_cons]; congr 1; omega
def ES (c : CrA) (kept : List Tk) (ls : List Ar) (next clock : Int) : List Tk := kept.filter (fun t : Tk => (!decide (t.loc = [])) || KU ls t.id) ++ M5 c clock next (ls.filter (fun a : Ar => !decide (0 < a.rests)))
theorem LZ {z : Ar} (h : decide ((0 : Int) < z.rests) = false) : [z].filter (fun a : Ar => !decide (0 < a.rests)) = [z] := by simp [h]
theorem M4 {z : Ar} (h : decide ((0 : Int) < z.rests) = true) : [z].filter (fun a : Ar => !decide (0 < a.rests)) = [] := by simp [h]
theorem iP {ls : List Ar} {y : Tk} (h : ((!decide (y.loc = [])) || KU ls y.id) = true) : [y].filter (fun t : Tk => (!decide (t.loc = [])) || KU ls t.id) = [y] := by simp only [List.filter_cons, List.filter_nil, h, if_true]
theorem iQ {ls : List Ar} {y : Tk} (h : ((!decide (y.loc = [])) || KU ls y.id) = false) : [y].filter (fun t : Tk => (!decide (t.loc = [])) || KU ls t.id) = [] := by simp only [List.filter_cons, List.filter_nil, h]; rfl
theorem X2 {α : Type} (p : α → Bool) {l : List α} {k : Nat} {z : α} (hz : l[k]? = some z) (hp : p z = true) : ((l.take k).filter p).length + 1 ≤ (l.filter p).length := by
 have h1 : l = l.take k ++ z :: l.drop (k + 1) := by rw [← B7 hz, List.take_append_drop]
 conv => rhs; rw [h1]
 rw [List.filter_append, List.filter_cons_of_pos hp, List.length_append, List.length_cons]; omega
theorem MI (a0 : Int) (a1 : List UInt8) (a3 : Int) (a4 : Int) : prog.built 43 [(0, AJ a0), (1, str a1), (3, AJ a3), (4, AJ a4)] = some #[AJ a0, str a1, str [], AJ a3, AJ a4, str [], AJ 0, .int .u8 0, AJ 0] := by kernel_rfl
theorem IF : (prog.info? 43).map (fun i => (i.zero, i.size)) = some (some (.agg #[AJ 0, str [], str [], AJ 0, AJ 0, str [], AJ 0, .int .u8 0, AJ 0]), 9) := by kernel_rfl
theorem iZ (x : Int) (w : World) : Calls prog 152 #[AJ x] w (CG w (.bool (!(decide (x = x))))) := by
 refine C5 func152 ntmps152 rfl fun M => srg (AY rfl (AQ rfl (yb rfl (DA rfl rfl (yb rfl (gnr (gr1 rfl ?_)))))))
 exact ⟨rfl, M.fr⟩
def P4 (x y : Int) : Int := (if (!(decide (x = x))) = true then (if (!(decide (y = y))) = true then 0 else (-1)) else (if (!(decide (y = y))) = true then 1 else (if (decide (x < y)) = true then (-1) else (if (decide (y < x)) = true then 1 else 0))))
theorem XE (x y : Int) (w : World) : Calls prog 119 #[AJ x, AJ y] w (CG w (AJ (P4 x y))) := by
 refine C5 func119 ntmps119 rfl fun M => srg (AY rfl (AQ rfl (D4 M 8 rfl rfl call152 (iZ x _) fun w1 M => AY rfl (AQ rfl ?_))))
 refine D4 M 10 rfl rfl call152 (iZ y _) fun w2 M => AY rfl (AF (srg (AY rfl (AL rfl (fun h11 => ?_) (fun h11 => ?_)))))
 ·refine AF (srg (AY rfl (AL rfl (fun h12 => ?_) (fun h12 => ?_))))
  ·exact AQ rfl (gnr (AB (AB (gr1 rfl ⟨by rw [P4, if_pos h11, if_pos h12] <;> rfl, M.fr⟩))))
  ·exact AI (AD (AQ rfl (gnr (AB (gr1 rfl ⟨by rw [P4, if_pos h11, AT h12] <;> rfl, M.fr⟩)))))
 ·refine AI (AD (AF (srg (AY rfl (AL rfl (fun h13 => ?_) (fun h13 => ?_))))))
  ·exact AQ rfl (gnr (AB (gr1 rfl ⟨by rw [P4, AT h11, if_pos h13] <;> rfl, M.fr⟩)))
  ·refine AI (AD (AF (AQ rfl (yb rfl (CF rfl rfl (nq (AL rfl (fun h16 => ?_) (fun h16 => ?_))))))))
   ·exact AQ rfl (gnr (AB (gr1 rfl ⟨by rw [P4, AT h11, AT h13, if_pos h16] <;> rfl, M.fr⟩)))
   ·refine AI (AD (AF (AQ rfl (yb rfl (LD rfl rfl (nq (AL rfl (fun h19 => ?_) (fun h19 => ?_))))))))
    ·exact AQ rfl (gnr (AB (gr1 rfl ⟨by rw [P4, AT h11, AT h13, AT h16, if_pos h19] <;> rfl, M.fr⟩)))
    ·exact AI (AD (AQ rfl (gnr (gr1 rfl ⟨by rw [P4, AT h11, AT h13, AT h16, AT h19] <;> rfl, M.fr⟩))))
theorem Y7 (a b : Ar) (w : World) : Calls prog 118 #[.agg a.cells.toArray, .agg b.cells.toArray] w (CG w (AJ (P4 a.order b.order))) := by
 refine C5 func118 ntmps118 rfl fun M => srg (CR M rfl rfl fun g2 w1 hg2 M => CR M rfl rfl fun g3 w2 hg3 M => AY rfl (AQ rfl (BC M 1 rfl rfl rfl (yb rfl (BC M 0 rfl rfl rfl ?_)))))
 exact D4 M 9 rfl rfl call119 (XE a.order b.order _) fun w3 M => yb rfl (gnr (gr1 rfl ⟨rfl, M.fr⟩))
theorem bS (m : Md) (gc : Nat) (c : CrA) (F : List Nat) (V : Option Addr) (vn vc gx : Nat) (σ : Mo) (F' : List Nat) (K : Option Addr) (kc : Nat) (kept : List Tk) (next clock : Int) (w : World) (h1 : σ.on.length ≤ 500000) (h2 : σ.done.length ≤ 400000) (h3 : kept.length ≤ 400000) (hn1 : 0 ≤ next) (hn2 : next ≤ 2147483647) (hC : CourseN w m gc c F) (hN : MoN w gc V vn vc gx σ F') (hK : Rd w K (kept.length * 9) (AH Tk.cells kept)) :
 Calls prog 62 #[pg gx, .slice K kept.length kc, AJ next, AJ clock] w fun e w' => ∃ ls : List Ar, ls.Perm (σ.on ++ σ.done) ∧ Fr0 w w' ∧ ((2147483647 < next + ((ls.filter (fun a : Ar => !decide (0 < a.rests))).length : Int) ∧ e = .returned (.tuple #[.slice none 0 0, AJ 0, AJ 3])) ∨ (next + ((ls.filter (fun a : Ar => !decide (0 < a.rests))).length : Int) ≤ 2147483647 ∧ ∃ A c', e = .returned (.tuple #[.slice A (ES c kept ls next clock).length c', AJ (next + ((ls.filter (fun a : Ar => !decide (0 < a.rests))).length : Int)), AJ 0]) ∧ w'.ownsRow w.heap.size 43 9 (.slice A (ES c kept ls next clock).length c') (ES c kept ls next clock).length (AH Tk.cells (ES c kept ls next clock)))) := by
 obtain ⟨on, dn, fi, cm⟩ := σ
 obtain ⟨_, _, x, Mx⟩ := hN
 dsimp only at h1 h2 Mx
 have hbx := Mx.blk 0 rfl
 have hon := Mx.rdOwn 1 rfl
 have hdn := Mx.rdOwn 2 rfl
 refine C5 func62 ntmps62 rfl fun M => AQ rfl (yb rfl (AY rfl (AF (CV 11 (fun w' => Mem w B0 [] w') CZ ?_))))
 have M := M.drew
 refine oc 0 11 rfl rfl M (oc 1 11 rfl rfl M (oc 2 11 rfl rfl M (ol 3 11 rfl rfl rfl M (fun _ M => (Blk.c (hbx.fr0 M.fr) 2 rfl)) (oc 5 11 rfl rfl M (oc 6 11 rfl rfl M (oc 7 11 rfl rfl M (ol 8 11 rfl rfl rfl M (fun _ M => (Blk.c (hbx.fr0 M.fr) 3 rfl)) (C7 4 (some 25) gkr rfl (AA rfl) rfl rfl (AP rfl rfl call116) (aM x.A x.a on _ AM (hon.fr0 M.fr)) ?_))))))))
 rintro _ w1 ⟨A25, c25, rfl, how1, hfw1⟩
 refine ⟨_, rfl, fun _ => M.step hfw1, ?_⟩
 have M := M.pushOwn hfw1 (Nat.le_refl _) how1
 refine BB 9 (some 30) gkr rfl (AA rfl) rfl rfl (fun ρ hρ => DL _ _ _ rfl w.heap.size _ _ _ _ underlying122 FJ rfl BU _ _ _ (hρ _ _ rfl) (M.own 0 rfl) _ _ _ _ (hρ _ _ rfl) (hdn.fr0 M.fr) (EJ Ar.cells_one) (by unfold maxLen; first | omega | (simp; omega)) CX M.fr.size) ?_
 rintro v30 w2 ⟨ho30, hgr30, hvb30⟩
 replace ho30 : World.ownsRow w2 w.heap.size 126 5 v30 ((on ++ dn).length) (AH Ar.cells (on ++ dn)) := by rw [show ((on ++ dn).length) = on.length + dn.length from by simp, show (AH Ar.cells (on ++ dn)) = (AH Ar.cells on) ++ (AH Ar.cells dn) from by first | exact C1 _ _ _ | simp [AH, Ar.cells]]; exact ho30
 have M := M.appOwn 0 rfl ho30 hgr30 hvb30
 obtain ⟨A30, c30, rfl, _⟩ := E8 ho30
 refine ⟨fun _ => (M.drop 1), oc 10 11 rfl rfl (M.drop 1) (fdn (AD (AQ rfl (cl 32 rfl (AP rfl rfl call117) (fS w.heap.size A30 c30 ((on ++ dn).length) 118 (fun a b => P4 a.order b.order) (on ++ dn) _ call118 (fun a b w => Y7 a b w) (by simp; omega) rfl (M.own 0 rfl)) ?_))))⟩
 rintro _ w3 ⟨rfl, ls, hpl, how3, hfw3⟩
 refine ⟨_, rfl, ?_⟩
 have M := M.upd 0 rfl hfw3 (As.own _ 126 5 (.slice A30 ((on ++ dn).length) c30) ((on ++ dn).length) (AH Ar.cells ls)) how3 (fun g hg => .inl hg)
 have hll : ls.length = (on ++ dn).length := hpl.length_eq
 have hlb : ls.length ≤ 900000 := by rw [hll]; simp; omega
 rw [← hll] at M ⊢
 refine N2 (AY rfl (srg (bJ M (AA rfl) rfl rfl rfl fun g33 w4 hg33 M => AY rfl (AF (AF ?_)))))
 refine AK (yb rfl (ya rfl (C3 rfl rfl (sl rfl)) (AY rfl (AS (flp [35, 34, 13, 12, 11, 3, 2, 1, 0] (fun ze e wr mz => ∃ (i : Nat) (f : Int → Option Value), e = (36, AJ ((i : Nat) : Int)) :: ze ∧ Mem w B0 [As.mi g33 f, As.own w.heap.size 126 5 (.slice A30 ls.length c30) ls.length (AH Ar.cells ls)] wr ∧ (i ≤ ls.length) ∧ (∀ k, (f k).getD (.bool false) = .bool (KU (ls.take i) k)) ∧ mz = ls.length - i) ⟨0, _, rfl, M, Nat.zero_le _, fun _ => rfl, rfl⟩ ?_)))))
 rintro _ w5 _ ⟨i, f, rfl, M, hi, hf, rfl⟩
 refine srg (CF rfl rfl (nq (AF (AL rfl (fun h37 => ?_) (fun h37 => ?_)))))
 ·have h37p := (odt h37)
  refine AI (AD (AF (AS (srg ?_))))
  obtain ⟨z, hz⟩ := CC (l := ls) (i := i) AM
  obtain ⟨b_z, o_z, hA_z⟩ := BI (k := 5) AM (M.rdOwn 1 rfl) hz
  refine ya rfl (B1 i hA_z rfl rfl rfl (sl rfl) AM) (ya rfl (AU rfl rfl (BV Ar.len (M.rdOwn 1 rfl) hA_z hz) underlying126 rfl B8) (DC M rfl G3 fun g15 w6 hg15 M => C4 M 0 rfl rfl B8 rfl fun w7 M => nq (AK (BM rfl rfl (BC M 0 rfl rfl rfl (yb rfl (BC M 0 rfl rfl rfl (LD rfl rfl (fF M 1 (AA rfl) rfl rfl rfl rfl rfl underlying171 underlying3 rfl ?_)))))))))
  intro w8 M
  refine AR (AE (AD (AK (ya rfl (BO rfl rfl rfl AM) (yb rfl (AR (fag ⟨i + 1, (upd f z.rests (.bool (decide ((0 : Int) < z.rests)))), rfl, (M.pk [1, 2]), ?_, ?_, rfl⟩)))))))
  ·omega
  ·exact mH hf (B4 hz)
 ·have h37p := (odf h37)
  refine BF (AG (AG ?_))
  obtain rfl : i = ls.length := by omega
  have hF := hf
  simp only [List.take_length] at hF
  refine AV (AD (AF (AQ rfl (ya rfl (C3 rfl rfl (sl rfl)) (AY rfl (AS ?_))))))
  have M := M.nilOwn 43 9
  refine flp [48, 47, 13, 11, 3, 2, 0] (fun ze e wr mz => ∃ (j : Nat) (acc : List Tk) (A12 : Option Addr) (c12 : Nat), e = (12, .slice A12 acc.length c12) :: (49, AJ ((j : Nat) : Int)) :: ze ∧ Mem w B0 [As.own w.heap.size 43 9 (.slice A12 acc.length c12) acc.length (AH Tk.cells acc), As.mi g33 f, As.own w.heap.size 126 5 (.slice A30 ls.length c30) ls.length (AH Ar.cells ls)] wr ∧ (j ≤ kept.length) ∧ (acc = (kept.take j).filter (fun t : Tk => (!decide (t.loc = [])) || KU ls t.id)) ∧ (acc.length ≤ j) ∧ mz = kept.length - j) ⟨0, [], none, 0, rfl, M, Nat.zero_le _, rfl, Nat.le_refl _, rfl⟩ ?_
  rintro _ w9 _ ⟨j, acc, A12, c12, rfl, M, hj, hacc, hal, rfl⟩
  refine srg (CF rfl rfl (nq (AF (AL rfl (fun h50 => ?_) (fun h50 => ?_)))))
  ·have h50p := (odt h50)
   refine AI (AD (AF (AS (srg ?_))))
   obtain ⟨y, hy⟩ := CC (l := kept) (i := j) AM
   obtain ⟨b_y, o_y, hA_y⟩ := BI (k := 9) AM (hK.fr0 M.fr) hy
   refine ya rfl (B1 j hA_y rfl rfl rfl (sl rfl) AM) (ya rfl (AU rfl rfl (BV Tk.len (hK.fr0 M.fr) hA_y hy) underlying43 rfl BD) (DC M rfl FE fun g17 w10 hg17 M => C4 M 0 rfl rfl BD rfl fun w11 M => nq (AQ rfl (BC M 0 rfl rfl rfl (ya rfl (FP rfl rfl rfl) (yb rfl (fvm M 5 [17, 49, 48, 47, 13, 12, 11, 3, 2, 0] [(61, .bool ((!decide (y.loc = [])) || (KU ls y.id)))] ?_ (fun k56 => ?_))))))))
   ·intro w12 M
    refine nq (AL rfl (fun h61 => ?_) (fun h61 => ?_))
    ·have h61p := ((EO h61).imp (fun z => (odf (CK z))) (fun z => z))
     refine AK (yb rfl (CW M 0 rfl rfl underlying43 BD rfl (DF M (AA rfl) rfl rfl [.agg (Tk.cells y).toArray] (Tk.cells y) rfl rfl rfl rfl underlying27 IF rfl rfl (HE rfl) rfl fun g64 w13 hg64 M => EH (len' := (acc ++ [y]).length) (xs' := AH Tk.cells (acc ++ [y])) M 2 (AA rfl) rfl rfl rfl rfl rfl rfl (M.rdBlk 0 rfl rfl) underlying27 GI rfl BU (BP rfl) (Nat.le_refl _) (Nat.le_refl _) CX (by unfold maxLen; first | omega | (simp; omega)) (by simp) (by first | exact (C1 _ _ _).symm | simp [AH, Tk.cells]) fun A65 c65 w14 M => yb rfl (AR (AE (AD (AK (ya rfl (BO rfl rfl rfl AM) (yb rfl (AR (fag ⟨j + 1, acc ++ [y], A65, c65, rfl, (M.pk [2, 3, 4]), ?_, ?_, ?_, rfl⟩)))))))))))
     ·omega
     ·rw [B4 hy, List.filter_append, ← hacc]
      first
       | rw [iP h61]
       | (rw [iQ h61]; simp)
     ·first
       | omega
       | (simp; omega)
    ·have h61p := (And.intro (odt (BQ (CP h61).1)) (CP h61).2)
     refine AI (AE (AD (AK (ya rfl (BO rfl rfl rfl AM) (yb rfl (AR (fag ⟨j + 1, acc, A12, c12, rfl, (M.pk [1, 2, 3]), ?_, ?_, ?_, rfl⟩)))))))
     ·omega
     ·rw [B4 hy, List.filter_append, ← hacc]
      first
       | rw [iP h61]
       | (rw [iQ h61]; simp)
     ·first
       | omega
       | (simp; omega)
   refine AO (d := 56) rfl (fun h56 => ?_) (fun h56 => ?_)
   ·iterate 4 refine yo rfl ?_
    exact yb rfl (k56 M ⟨rfl, rfl, rfl, rfl, rfl, rfl, rfl, rfl, rfl, rfl, (by rw [h56]; rfl), trivial⟩)
   ·exact gyq rfl (gyq rfl (CJ M 0 rfl rfl rfl (yd rfl (dY rfl rfl rfl underlying171 underlying3 O0 (M.ok 2 _ rfl : Mi _ _ _) (hF y.id)) (yb rfl (k56 M ⟨rfl, rfl, rfl, rfl, rfl, rfl, rfl, rfl, rfl, rfl, (by rw [h56]; rfl), trivial⟩)))))
  ·have h50p := (odf h50)
   refine BF (AG (AG ?_))
   obtain rfl : j = kept.length := by omega
   have hacc1 := hacc
   rw [List.take_length] at hacc1
   refine AV (AD (AF (AQ rfl (ya rfl (C3 rfl rfl (sl rfl)) (AY rfl (AS (flp [68, 67, 3, 0] (fun ze e wr mz => ∃ (k : Nat) (acc2 : List Tk) (A13 : Option Addr) (c13 : Nat) (nx : Int), e = (2, AJ nx) :: (12, .slice A13 acc2.length c13) :: (69, AJ ((k : Nat) : Int)) :: ze ∧ Mem w B0 [As.own w.heap.size 43 9 (.slice A13 acc2.length c13) acc2.length (AH Tk.cells acc2), As.mi g33 f, As.own w.heap.size 126 5 (.slice A30 ls.length c30) ls.length (AH Ar.cells ls)] wr ∧ (k ≤ ls.length) ∧ (acc2 = acc ++ M5 c clock next ((ls.take k).filter (fun a : Ar => !decide (0 < a.rests)))) ∧ (nx = next + (((ls.take k).filter (fun a : Ar => !decide (0 < a.rests))).length : Int) ∧ nx ≤ 2147483647) ∧ (acc2.length ≤ kept.length + k) ∧ mz = ls.length - k) ⟨0, acc, A12, c12, next, rfl, M, Nat.zero_le _, (List.append_nil _).symm, ⟨(Int.add_zero _).symm, hn2⟩, by omega, rfl⟩ ?_)))))))
   rintro _ w15 _ ⟨k, acc2, A13, c13, nx, rfl, M, hk, hac2, hnx, hal2, rfl⟩
   refine srg (CF rfl rfl (nq (AF (AL rfl (fun h70 => ?_) (fun h70 => ?_)))))
   ·have h70p := (odt h70)
    refine AI (AD (AF (AS (srg ?_))))
    obtain ⟨z, hz⟩ := CC (l := ls) (i := k) AM
    obtain ⟨b_z, o_z, hA_z⟩ := BI (k := 5) AM (M.rdOwn 2 rfl) hz
    refine ya rfl (B1 k hA_z rfl rfl rfl (sl rfl) AM) (ya rfl (AU rfl rfl (BV Ar.len (M.rdOwn 2 rfl) hA_z hz) underlying126 rfl B8) (DC M rfl G3 fun g19 w16 hg19 M => C4 M 0 rfl rfl B8 rfl fun w17 M => nq (AF (AQ rfl (BC M 0 rfl rfl rfl (LD rfl rfl (nq ?_)))))))
    refine AL rfl (fun h75 => ?_) (fun h75 => ?_)
    ·have h75p := (odt h75)
     refine BF (AG (AV (AD (AK (ya rfl (BO rfl rfl rfl AM) (yb rfl (AR (fag ⟨k + 1, acc2, A13, c13, nx, rfl, (M.pk [1, 2, 3]), ?_, ?_, ?_, ?_, rfl⟩))))))))
     ·omega
     ·rw [B4 hz, List.filter_append, hac2]
      first
       | (rw [M4 h75]; simp)
       | (rw [LZ h75, K9, ← hnx.1, List.append_assoc]; first
        | (rw [MQ h84] <;> rfl)
        | (rw [KB h84 h104] <;> rfl)
        | (rw [OS h84 h104] <;> rfl))
     ·rw [B4 hz, List.filter_append]
      first
       | (rw [M4 h75]; simpa using hnx)
       | (rw [LZ h75, List.length_append]; refine ⟨?_, by omega⟩; rw [hnx.1]; simp; omega)
     ·first
       | omega
       | (simp; omega)
    ·have h75p := (odf h75)
     refine AI (AD (AF (AQ rfl (CN rfl rfl (nq (AL rfl (fun h77 => ?_) (fun h77 => ?_)))))))
     ·have h77p := (odt h77)
      refine AQ rfl (BM rfl rfl (gnr (AB (AN (AB (AB (AN (AB (IY rfl rfl rfl rfl ⟨ls, hpl, M.fr, .inl ⟨?_, rfl⟩⟩)))))))))
      have h1 := X2 (fun a : Ar => !decide (0 < a.rests)) hz (by rw [h75]; rfl)
      have h2 := hnx.1
      omega
     ·have h77p := (odf h77)
      refine AI (AD (AQ rfl (ya rfl (BO rfl rfl rfl AM) (AY rfl (AQ rfl (yb rfl (BC M 0 rfl rfl rfl (ya rfl (BA (parts := [(0, _), (2, _)]) rfl rfl (KM _ _)) (DC M rfl FE ?_)))))))))
      intro g20 w18 hg20 M
      refine C4 M 0 rfl rfl BD rfl fun w19 M => nq (AF (AS (AQ rfl (BC M 1 rfl rfl rfl (ya rfl (FP rfl rfl rfl) (AY rfl (AL rfl (fun h84 => ?_) (fun h84 => ?_))))))))
      ·have h84p := (odf (CK h84))
       refine DP 16 CZ gkr ?_
       have M := M.drew
       refine sb rfl (sb rfl (FL M 1 rfl rfl rfl ?_))
       iterate 4 refine sb rfl ?_
       refine sd rfl rfl (Blk.c (hbx.fr0 M.fr) 0 rfl) (sb rfl (sb rfl (sd rfl rfl (Blk.c ((hC.fr0 M.fr).blk) 5 rfl) (sb rfl (FL M 1 rfl rfl rfl (sa rfl (BT rfl rfl rfl underlying62 underlying9 B6 ((hC.fr0 M.fr).A) (hC.getA _)) (sa rfl (aZ (b := (c.atf z.at_)) rfl rfl) (sa rfl (BA (parts := [(0, _), (1, _), (3, _), (4, _)]) rfl rfl (MI _ _ _ _)) (CS (C4 M 0 rfl rfl BD rfl fun w20 M => AR (AE (AD (AK ?_)))))))))))))
       refine yb rfl (CW M 0 rfl rfl underlying43 BD rfl (DF M (AA rfl) rfl rfl [.agg #[AJ (nx + (1 : Int)), str z.at_, str [], AJ clock, AJ ((c.atf z.at_).tries), str [], AJ 0, .int .u8 0, AJ 0]] ([AJ (nx + (1 : Int)), str z.at_, str [], AJ clock, AJ ((c.atf z.at_).tries), str [], AJ 0, .int .u8 0, AJ 0]) rfl rfl rfl rfl underlying27 IF rfl rfl (HE rfl) rfl fun g111 w21 hg111 M => EH (len' := (acc2 ++ [(⟨(nx + (1 : Int)), z.at_, [], clock, ((c.atf z.at_).tries), [], 0, 0, 0⟩ : Tk)]).length) (xs' := AH Tk.cells (acc2 ++ [(⟨(nx + (1 : Int)), z.at_, [], clock, ((c.atf z.at_).tries), [], 0, 0, 0⟩ : Tk)])) M 3 (AA rfl) rfl rfl rfl rfl rfl rfl (M.rdBlk 0 rfl rfl) underlying27 GI rfl BU (BP rfl) (Nat.le_refl _) (Nat.le_refl _) CX (by unfold maxLen; first | omega | (simp; omega)) (by simp) (by first | exact (C1 _ _ _).symm | simp [AH, Tk.cells]) fun A112 c112 w22 M => yb rfl (AR (AE (AD (AK (ya rfl (BO rfl rfl rfl AM) (yb rfl (AR (fag ⟨k + 1, acc2 ++ [(⟨(nx + (1 : Int)), z.at_, [], clock, ((c.atf z.at_).tries), [], 0, 0, 0⟩ : Tk)], A112, c112, (nx + (1 : Int)), rfl, (M.pk [3, 4, 5]), ?_, ?_, ?_, ?_, rfl⟩))))))))))
       ·omega
       ·rw [B4 hz, List.filter_append, hac2]
        first
         | (rw [M4 h75]; simp)
         | (rw [LZ h75, K9, ← hnx.1, List.append_assoc]; first
          | (rw [MQ h84] <;> rfl)
          | (rw [KB h84 h104] <;> rfl)
          | (rw [OS h84 h104] <;> rfl))
       ·rw [B4 hz, List.filter_append]
        first
         | (rw [M4 h75]; simpa using hnx)
         | (rw [LZ h75, List.length_append]; refine ⟨?_, by omega⟩; rw [hnx.1]; simp; omega)
       ·first
         | omega
         | (simp; omega)
      ·have h84p := (odt (BQ h84))
       refine AQ rfl (BC M 1 rfl rfl rfl (AY rfl (AL rfl (fun h104 => ?_) (fun h104 => ?_))))
       ·refine AK (yb rfl (gp1 M 0 rfl rfl rfl K5 fun w23 M => yb rfl (gp1 M 0 rfl rfl rfl KR fun w24 M => AR (AE (AD (AK (yb rfl (CW M 0 rfl rfl underlying43 BD rfl (DF M (AA rfl) rfl rfl [.agg #[AJ (nx + (1 : Int)), str [], str z.flow, AJ 0, AJ 0, str [], AJ 0, .int .u8 1, AJ 91]] ([AJ (nx + (1 : Int)), str [], str z.flow, AJ 0, AJ 0, str [], AJ 0, .int .u8 1, AJ 91]) rfl rfl rfl rfl underlying27 IF rfl rfl (HE rfl) rfl fun g111 w25 hg111 M => EH (len' := (acc2 ++ [(⟨(nx + (1 : Int)), [], z.flow, 0, 0, [], 0, 1, 91⟩ : Tk)]).length) (xs' := AH Tk.cells (acc2 ++ [(⟨(nx + (1 : Int)), [], z.flow, 0, 0, [], 0, 1, 91⟩ : Tk)])) M 3 (AA rfl) rfl rfl rfl rfl rfl rfl (M.rdBlk 0 rfl rfl) underlying27 GI rfl BU (BP rfl) (Nat.le_refl _) (Nat.le_refl _) CX (by unfold maxLen; first | omega | (simp; omega)) (by simp) (by first | exact (C1 _ _ _).symm | simp [AH, Tk.cells]) ?_)))))))))
        intro A112 c112 w26 M
        refine yb rfl (AR (AE (AD (AK (ya rfl (BO rfl rfl rfl AM) (yb rfl (AR (fag ⟨k + 1, acc2 ++ [(⟨(nx + (1 : Int)), [], z.flow, 0, 0, [], 0, 1, 91⟩ : Tk)], A112, c112, (nx + (1 : Int)), rfl, (M.pk [3, 4, 5]), ?_, ?_, ?_, ?_, rfl⟩))))))))
        ·omega
        ·rw [B4 hz, List.filter_append, hac2]
         first
          | (rw [M4 h75]; simp)
          | (rw [LZ h75, K9, ← hnx.1, List.append_assoc]; first
           | (rw [MQ h84] <;> rfl)
           | (rw [KB h84 h104] <;> rfl)
           | (rw [OS h84 h104] <;> rfl))
        ·rw [B4 hz, List.filter_append]
         first
          | (rw [M4 h75]; simpa using hnx)
          | (rw [LZ h75, List.length_append]; refine ⟨?_, by omega⟩; rw [hnx.1]; simp; omega)
        ·first
          | omega
          | (simp; omega)
       ·refine AI (AE (AD (AK (yb rfl (CW M 0 rfl rfl underlying43 BD rfl (DF M (AA rfl) rfl rfl [.agg #[AJ (nx + (1 : Int)), str [], str z.flow, AJ 0, AJ 0, str [], AJ 0, .int .u8 0, AJ 0]] ([AJ (nx + (1 : Int)), str [], str z.flow, AJ 0, AJ 0, str [], AJ 0, .int .u8 0, AJ 0]) rfl rfl rfl rfl underlying27 IF rfl rfl (HE rfl) rfl fun g111 w27 hg111 M => EH (len' := (acc2 ++ [(⟨(nx + (1 : Int)), [], z.flow, 0, 0, [], 0, 0, 0⟩ : Tk)]).length) (xs' := AH Tk.cells (acc2 ++ [(⟨(nx + (1 : Int)), [], z.flow, 0, 0, [], 0, 0, 0⟩ : Tk)])) M 3 (AA rfl) rfl rfl rfl rfl rfl rfl (M.rdBlk 0 rfl rfl) underlying27 GI rfl BU (BP rfl) (Nat.le_refl _) (Nat.le_refl _) CX (by unfold maxLen; first | omega | (simp; omega)) (by simp) (by first | exact (C1 _ _ _).symm | simp [AH, Tk.cells]) fun A112 c112 w28 M => yb rfl (AR (AE (AD (AK (ya rfl (BO rfl rfl rfl AM) ?_)))))))))))
        refine yb rfl (AR (fag ⟨k + 1, acc2 ++ [(⟨(nx + (1 : Int)), [], z.flow, 0, 0, [], 0, 0, 0⟩ : Tk)], A112, c112, (nx + (1 : Int)), rfl, (M.pk [3, 4, 5]), ?_, ?_, ?_, ?_, rfl⟩))
        ·omega
        ·rw [B4 hz, List.filter_append, hac2]
         first
          | (rw [M4 h75]; simp)
          | (rw [LZ h75, K9, ← hnx.1, List.append_assoc]; first
           | (rw [MQ h84] <;> rfl)
           | (rw [KB h84 h104] <;> rfl)
           | (rw [OS h84 h104] <;> rfl))
        ·rw [B4 hz, List.filter_append]
         first
          | (rw [M4 h75]; simpa using hnx)
          | (rw [LZ h75, List.length_append]; refine ⟨?_, by omega⟩; rw [hnx.1]; simp; omega)
        ·first
          | omega
          | (simp; omega)
   ·have h70p := (odf h70)
    refine BF (AG (AG ?_))
    obtain rfl : k = ls.length := by omega
    rw [List.take_length] at hac2 hnx
    refine AV (AD (srg ?_))
    iterate 5 refine yb rfl ?_
    refine gnr (IY rfl rfl rfl rfl ?_)
    have hR : ES c kept ls next clock = acc2 := by rw [ES, ← hacc1, hac2]
    rw [hnx.1]
    refine ⟨ls, hpl, M.fr, .inr ⟨by omega, A13, c13, by rw [hR], ?_⟩⟩
    rw [hR]
    exact M.own 0 rfl
end Go.Proofs.YtjaocmocdhckaaaGreatDoor
