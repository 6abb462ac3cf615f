/- Lemmas that the last text rests on. Condition: each says its own. -/
import Derived.Test.YtjaocmocdhckaaaGreatDoorZMw2
set_option maxHeartbeats 16000000
set_option maxRecDepth 100000
namespace Go.Proofs.YtjaocmocdhckaaaGreatDoor
open Go.RowKit
open Tryz
def Mo.rest (σ : Mo) (i : Nat) (a : Ar) (x : El) : Mo := ⟨σ.on.eraseIdx i, σ.done ++ [(⟨a.flow, a.order, a.rests, x.id, a.stops⟩ : Ar)], σ.fired ++ [x.id ++ [43]], σ.came⟩
def Mo.puts (σ : Mo) (l : List (List UInt8)) : Mo := l.foldl Mo.put σ
theorem Mo.puts_snoc (σ : Mo) (l : List (List UInt8)) (f : List UInt8) : σ.puts (l ++ [f]) = (σ.puts l).put f := by unfold Mo.puts; rw [List.foldl_append]; rfl
def Mo.sub (σ : Mo) (m : Md) (c : CrA) (i : Nat) (x : El) : Mo := Mo.puts ⟨σ.on.eraseIdx i, σ.done, σ.fired ++ [x.id], σ.came⟩ ((m.els.filter fun y : El => decide ((y.kind.toNat : Int) = (1 : Int)) && decide (y.inn = x.id)).map fun y : El => ((c.outs y.id)[0]?).getD [])
def Mo.end_ (σ : Mo) (c : CrA) (i : Nat) (x : El) : Mo := if x.inn = [] then ⟨σ.on.eraseIdx i, σ.done, σ.fired ++ [x.id], σ.came⟩ else Mo.put ⟨σ.on.eraseIdx i, σ.done, σ.fired ++ [x.id], σ.came⟩ (((c.outs x.inn)[0]?).getD [])
theorem eK {l l' : List El} {p : El → Bool} {h : El → List UInt8} {σ0 σ : Mo} {y : El} (hE : σ = σ0.puts ((l.filter p).map h)) (hl : l' = l ++ [y]) (hp : p y = false) : σ = σ0.puts ((l'.filter p).map h) := by
 rw [hl, List.filter_append, List.filter_cons_of_neg (by rw [hp]; decide), List.filter_nil, List.append_nil]; exact hE
theorem YQ {l l' : List El} {p : El → Bool} {c : CrA} {σ0 : Mo} {on dn : List Ar} {fi : List (List UInt8)} {cm : Nat} {y : El} {q : List UInt8} (hE : (⟨on, dn, fi, cm⟩ : Mo) = σ0.puts ((l.filter p).map fun y : El => ((c.outs y.id)[0]?).getD [])) (hl : l' = l ++ [y]) (hp : p y = true) (hq : (c.outs y.id)[0]? = some q) :
 (⟨on ++ [(⟨q, ((cm + 1 : Nat) : Int), 0, [], false⟩ : Ar)], dn, fi, cm + 1⟩ : Mo) = σ0.puts ((l'.filter p).map fun y : El => ((c.outs y.id)[0]?).getD []) := by
 rw [hl, List.filter_append, List.filter_cons_of_pos hp, List.filter_nil, List.map_append, List.map_cons, List.map_nil, Mo.puts_snoc, ← hE, hq]; rfl
theorem lC {gc vn vc gx : Nat} {V : Option Addr} {m : Md} {c : CrA} {i : Nat} {x : El} {on on1 dn : List Ar} {fi fi1 : List (List UInt8)} {cm cm1 : Nat} {F F' : List Nat} {w w' : World} {Ls : List As} (h1 : fi1 = fi ++ [x.id]) (hE : (⟨on1, dn, fi1, cm1⟩ : Mo) = Mo.puts ⟨on.eraseIdx i, dn, fi1, cm⟩ ((m.els.filter fun y : El => decide ((y.kind.toNat : Int) = (1 : Int)) && decide (y.inn = x.id)).map fun y : El => ((c.outs y.id)[0]?).getD []))
 (M : Mem w (fun k => k ∈ F) (As.mo gc V vn vc gx ⟨on1, dn, fi1, cm1⟩ F' :: Ls) w') : P6 gc V vn vc gx (Mo.sub ⟨on, dn, fi, cm⟩ m c i x) F w w' := by
 subst h1
 rw [Mo.sub, ← hE]
 exact GY M
theorem n6 {c : CrA} {on dn : List Ar} {fi : List (List UInt8)} {cm i : Nat} {x : El} {q : List UInt8} (h : ¬ x.inn = []) (hq : (c.outs x.inn)[0]? = some q) : (⟨on.eraseIdx i ++ [(⟨q, ((cm + 1 : Nat) : Int), 0, [], false⟩ : Ar)], dn, fi ++ [x.id], cm + 1⟩ : Mo) = Mo.end_ ⟨on, dn, fi, cm⟩ c i x := by
 rw [Mo.end_, if_neg h, hq]; rfl
theorem pQ {c : CrA} {on dn : List Ar} {fi : List (List UInt8)} {cm i : Nat} {x : El} (h : x.inn = []) : (⟨on.eraseIdx i, dn, fi ++ [x.id], cm⟩ : Mo) = Mo.end_ ⟨on, dn, fi, cm⟩ c i x := by
 rw [Mo.end_, if_pos h]
theorem PW (gc : Nat) (V : Option Addr) (vn vc gx : Nat) (σ : Mo) (F : List Nat) (i : Nat) (a : Ar) (x : El) (w : World) (h1 : σ.on.length ≤ 500000) (h2 : σ.fired.length ≤ 500000) (h3 : σ.came ≤ 500000000) (h4 : σ.done.length ≤ 500000) (ha : σ.on[i]? = some a) (_hx : x.id.length ≤ 100000) (hN : MoN w gc V vn vc gx σ F) :
 Calls prog 146 #[pg gx, .int .i64 ((i : Nat) : Int), .agg x.cells.toArray] w fun e w' => e = .returned (.bool true) ∧ P6 gc V vn vc gx (σ.rest i a x) F w w' := by
 obtain ⟨on, dn, fi, cm⟩ := σ
 dsimp only at h1 h2 h3 ha
 have hil : i < on.length := (List.getElem?_eq_some_iff.1 ha).1
 dsimp only at h4
 refine BC (vs := [_, _, _]) func146 rfl ntmps146 rfl ?_
 have M : Mem w (fun k => k ∈ F) [As.mo gc V vn vc gx (⟨on, dn, fi, cm⟩ : Mo) F] w := Mem.oneMo hN
 refine srg (CN M rfl rfl fun g5 w1 hg5 M => yb rfl (nq (srg (yb rfl (yb rfl (BA M 0 rfl rfl rfl (ya rfl (FN rfl rfl rfl (by first | omega | (simp; omega))) (cl 12 rfl (AQ rfl rfl call164) (KJ gc V vn vc gx (⟨on, dn, fi, cm⟩ : Mo) F (x.id ++ [43]) _ (by first | omega | (simp; omega) | (simp [List.length_eraseIdx]; split <;> omega)) (M.ok 1 _ rfl)) ?_))))))))
 rintro _ w2 ⟨rfl, F2, hNw2, hqw2, hfw2⟩
 refine ⟨_, rfl, ?_⟩
 have M := M.updMo 1 rfl (σ' := (⟨on, dn, fi ++ [(x.id ++ [43])], cm⟩ : Mo)) hNw2 hqw2 hfw2
 refine nq (srg (yb rfl (yb rfl (yb rfl ?_))))
 have M := M.pk [1, 0]
 obtain ⟨x3, M⟩ := Mem.openMo M
 replace M : Mem w (fun k => k ∈ F) [As.blk gx 124 [pg gc, .slice V vn vc, .slice x3.A on.length x3.a, .slice x3.B dn.length x3.b, .slice x3.C ((fi ++ [(x.id ++ [43])]).length) x3.c, .int .i64 ((cm : Nat) : Int)], As.own 0 126 5 (.slice x3.A on.length x3.a) on.length (AK Ar.cells on), As.own 0 126 5 (.slice x3.B dn.length x3.b) dn.length (AK Ar.cells dn), As.own 0 9 1 (.slice x3.C (fi ++ [(x.id ++ [43])]).length x3.c) ((fi ++ [(x.id ++ [43])]).length) (AK BW (fi ++ [(x.id ++ [43])])), As.blk g5 69 (El.cells x)] w2 := M
 refine BA M 0 rfl rfl rfl (yb rfl ?_)
 obtain ⟨b4_a, o4_a, hA4_a⟩ := BI (k := 5) AO (M.rdOwn 1 rfl) ha
 refine ya rfl (B1 i hA4_a rfl rfl rfl (sl rfl) AO) (ya rfl (AT rfl rfl (BQ Ar.len (M.rdOwn 1 rfl) hA4_a ha) underlying126 rfl B6) (D6 M rfl FY fun g7 w3 hg7 M => C1 M 0 rfl rfl B6 rfl fun w4 M => nq (srg (yb rfl (BA M 5 rfl rfl rfl (yb rfl (gp1 M 0 rfl rfl rfl G0 fun w5 M => AC ?_)))))))
 refine AA (srg (yb rfl (yb rfl ?_)))
 obtain ⟨F6, M⟩ := Mem.closeMo (M.pk [1, 2, 3, 4, 0, 5])
 refine cl 25 rfl (AQ rfl rfl call165) (KA gc V vn vc gx (⟨on, dn, fi ++ [(x.id ++ [43])], cm⟩ : Mo) F6 i _ (by first | omega | (simp; omega) | (simp [List.length_eraseIdx]; split <;> omega)) (by first | omega | (simp; omega)) (M.ok 0 _ rfl)) ?_
 rintro _ w6 ⟨rfl, F7, hNw6, hqw6, hfw6⟩
 refine ⟨_, rfl, ?_⟩
 have M := M.updMo 0 rfl (σ' := (⟨on.eraseIdx i, dn, fi ++ [(x.id ++ [43])], cm⟩ : Mo)) hNw6 hqw6 hfw6
 refine nq (AD ?_)
 obtain ⟨x8, M⟩ := Mem.openMo M
 replace M : Mem w (fun k => k ∈ F) [As.blk gx 124 [pg gc, .slice V vn vc, .slice x8.A ((on.eraseIdx i).length) x8.a, .slice x8.B dn.length x8.b, .slice x8.C ((fi ++ [(x.id ++ [43])]).length) x8.c, .int .i64 ((cm : Nat) : Int)], As.own 0 126 5 (.slice x8.A (on.eraseIdx i).length x8.a) ((on.eraseIdx i).length) (AK Ar.cells (on.eraseIdx i)), As.own 0 126 5 (.slice x8.B dn.length x8.b) dn.length (AK Ar.cells dn), As.own 0 9 1 (.slice x8.C (fi ++ [(x.id ++ [43])]).length x8.c) ((fi ++ [(x.id ++ [43])]).length) (AK BW (fi ++ [(x.id ++ [43])])), As.blk g7 126 [str a.flow, .int .i64 a.order, .int .i64 a.rests, str x.id, .bool a.stops], As.blk g5 69 (El.cells x)] w6 := M
 refine CO 8 (fun w' => Mem w (fun k => k ∈ F) [As.blk gx 124 [pg gc, .slice V vn vc, .slice x8.A ((on.eraseIdx i).length) x8.a, .slice x8.B dn.length x8.b, .slice x8.C ((fi ++ [(x.id ++ [43])]).length) x8.c, .int .i64 ((cm : Nat) : Int)], As.own 0 126 5 (.slice x8.A (on.eraseIdx i).length x8.a) ((on.eraseIdx i).length) (AK Ar.cells (on.eraseIdx i)), As.own 0 9 1 (.slice x8.C (fi ++ [(x.id ++ [43])]).length x8.c) ((fi ++ [(x.id ++ [43])]).length) (AK BW (fi ++ [(x.id ++ [43])])), As.blk g7 126 [str a.flow, .int .i64 a.order, .int .i64 a.rests, str x.id, .bool a.stops], As.blk g5 69 (El.cells x)] w') CU ?_
 have M := M.drew
 refine oc 0 8 rfl rfl (M.pk [0, 1, 3, 4, 5]) (oc 1 8 rfl rfl (M.pk [0, 1, 3, 4, 5]) (oc 2 8 rfl rfl (M.pk [0, 1, 3, 4, 5]) (oc 3 8 rfl rfl (M.pk [0, 1, 3, 4, 5]) (ol 4 8 rfl rfl rfl (M.pk [0, 1, 3, 4, 5]) (fun _ M => (M.cell 0 rfl rfl)) (oa 5 8 rfl rfl (M.pk [0, 1, 3, 4, 5]) (fun _ M => AT (xs := [str a.flow, .int .i64 a.order, .int .i64 a.rests, str x.id, .bool a.stops]) rfl rfl (M.rdBlk 3 rfl rfl) underlying126 rfl B6) (B7 6 (some 32) gkr rfl (AF rfl) rfl rfl (fun ρ hρ => DL [.agg #[str a.flow, .int .i64 a.order, .int .i64 a.rests, str x.id, .bool a.stops]] _ hρ rfl rfl rfl rfl underlying122 HW BR BR (GX rfl)) ?_))))))
 rintro _ w7 ⟨g32, rfl, hg32, hq32, hb32, hfw7⟩
 replace hb32 : Blk w7 g32 126 ([str a.flow, .int .i64 a.order, .int .i64 a.rests, str x.id, .bool a.stops]) := hb32
 refine ⟨fun _ => (M.pk [0, 1, 3, 4, 5]).step hfw7, ?_⟩
 have M := M.push hfw7 _ hb32 (DV hg32 hq32)
 replace M : Mem w (fun k => k ∈ F) (As.blk g32 126 ([str a.flow, .int .i64 a.order, .int .i64 a.rests, str x.id, .bool a.stops]) :: _) w7 := M
 refine B7 7 (some 33) gkr rfl (AF rfl) rfl rfl (fun ρ hρ => DI _ _ _ rfl 0 _ _ _ _ underlying122 FB rfl BR _ _ _ (hρ _ _ rfl) (M.own 3 rfl) _ _ _ _ (hρ _ _ rfl) (M.rdBlk 0 rfl rfl) (BL rfl) (by unfold maxLen; first | omega | (simp only [List.length_append, List.length_cons, List.length_nil]; omega)) (by first | omega | (simp <;> omega)) (Nat.zero_le _)) ?_
 rintro v33 w8 ⟨ho33, hgr33, hvb33⟩
 replace ho33 : World.ownsRow w8 0 126 5 v33 ((dn ++ [(⟨a.flow, a.order, a.rests, x.id, a.stops⟩ : Ar)]).length) (AK Ar.cells (dn ++ [(⟨a.flow, a.order, a.rests, x.id, a.stops⟩ : Ar)])) := by rw [show ((dn ++ [(⟨a.flow, a.order, a.rests, x.id, a.stops⟩ : Ar)]).length) = dn.length + 1 from by first | (simp only [List.length_append, List.length_cons, List.length_nil]; omega) | simp only [List.length_append, List.length_cons, List.length_nil], show (AK Ar.cells (dn ++ [(⟨a.flow, a.order, a.rests, x.id, a.stops⟩ : Ar)])) = (AK Ar.cells dn) ++ [str a.flow, .int .i64 a.order, .int .i64 a.rests, str x.id, .bool a.stops] from by first | exact BY _ _ _ | simp [AK]]; exact ho33
 have M := M.appOwn 3 rfl ho33 hgr33 hvb33
 obtain ⟨A33, c33, rfl, _⟩ := E1 ho33
 refine ⟨fun _ => (M.pk [1, 2, 4, 5, 6]), fo1 8 rfl rfl (yp rfl) (fo1 9 rfl rfl (yp rfl) (B7 10 none gkr rfl (AF rfl) rfl rfl (fun ρ hρ => E2 122 _ _ rfl gx 3 124 _ (.slice A33 ((dn ++ [(⟨a.flow, a.order, a.rests, x.id, a.stops⟩ : Ar)]).length) c33) (hρ _ _ rfl) (hρ _ _ rfl) rfl (M.blk 1 rfl) FQ (CJ rfl) rfl) ?_))⟩
 rintro _ w9 ⟨rfl, hbw9, hfw9⟩
 replace M : Mem w (fun k => k ∈ F) (List.set _ 1 (As.blk gx 124 [pg gc, .slice V vn vc, .slice x8.A ((on.eraseIdx i).length) x8.a, .slice A33 ((dn ++ [(⟨a.flow, a.order, a.rests, x.id, a.stops⟩ : Ar)]).length) c33, .slice x8.C ((fi ++ [(x.id ++ [43])]).length) x8.c, .int .i64 ((cm : Nat) : Int)])) w9 := M.putB 1 rfl hbw9 hfw9
 refine ⟨fun h => absurd h BR, fdn (AA (srg (yb rfl (nq (AI (gr1 rfl ?_))))))⟩
 obtain ⟨F10, M⟩ := Mem.closeMo (M.pk [1, 2, 3, 4, 0, 5, 6])
 exact ⟨rfl, GY (M.pk [0])⟩
theorem oF (we : World) (m : Md) (gc : Nat) (c : CrA) (Fc : List Nat) (V : Option Addr) (vn vc gx : Nat) (σ : Mo) (F : List Nat) (i : Nat) (a : Ar) (x : El) (w : World) (h1 : σ.on.length ≤ 500000) (h2 : σ.fired.length ≤ 500000) (h3 : σ.came ≤ 500000000) (ha : σ.on[i]? = some a) (_hx : x.id.length ≤ 100000) (ho : MdOk m) (hne : ∀ y ∈ m.els, (y.kind.toNat : Int) = 1 → y.inn = x.id → 0 < (c.outs y.id).length) (hC : CourseN we m gc c Fc) (hwe : Fr0 we w) (hFe : ∀ g ∈ F, we.heap.size ≤ g) (hN : MoN w gc V vn vc gx σ F) :
 Calls prog 147 #[pg gx, .int .i64 ((i : Nat) : Int), .agg x.cells.toArray] w fun e w' => e = .returned (.bool true) ∧ P6 gc V vn vc gx (σ.sub m c i x) F w w' := by
 obtain ⟨on, dn, fi, cm⟩ := σ
 dsimp only at h1 h2 h3 ha
 have hil : i < on.length := (List.getElem?_eq_some_iff.1 ha).1
 have hnf := ho.nfls
 have hne2 := ho.nels
 refine BC (vs := [_, _, _]) func147 rfl ntmps147 rfl ?_
 have M : Mem w (fun k => k ∈ F) [As.mo gc V vn vc gx (⟨on, dn, fi, cm⟩ : Mo) F] w := Mem.oneMo hN
 refine srg (CN M rfl rfl fun g5 w1 hg5 M => yb rfl (nq (srg (yb rfl (yb rfl (BA M 0 rfl rfl rfl (cl 12 rfl (AQ rfl rfl call164) (KJ gc V vn vc gx (⟨on, dn, fi, cm⟩ : Mo) F x.id _ (by first | omega | (simp; omega) | (simp [List.length_eraseIdx]; split <;> omega)) (M.ok 1 _ rfl)) ?_)))))))
 rintro _ w2 ⟨rfl, F2, hNw2, hqw2, hfw2⟩
 refine ⟨_, rfl, ?_⟩
 have M := M.updMo 1 rfl (σ' := (⟨on, dn, fi ++ [x.id], cm⟩ : Mo)) hNw2 hqw2 hfw2
 refine nq (srg (yb rfl (yb rfl (cl 15 rfl (AQ rfl rfl call165) (KA gc V vn vc gx (⟨on, dn, fi ++ [x.id], cm⟩ : Mo) F2 i _ (by first | omega | (simp; omega) | (simp [List.length_eraseIdx]; split <;> omega)) (by first | omega | (simp; omega)) (M.ok 1 _ rfl)) ?_))))
 rintro _ w3 ⟨rfl, F3, hNw3, hqw3, hfw3⟩
 refine ⟨_, rfl, ?_⟩
 have M := M.updMo 1 rfl (σ' := (⟨on.eraseIdx i, dn, fi ++ [x.id], cm⟩ : Mo)) hNw3 hqw3 hfw3
 refine nq (AD (srg (yb rfl (yb rfl (yb rfl ?_)))))
 have M := M.pk [1, 0]
 obtain ⟨x4, M⟩ := Mem.openMo M
 replace M : Mem w (fun k => k ∈ F) [As.blk gx 124 [pg gc, .slice V vn vc, .slice x4.A ((on.eraseIdx i).length) x4.a, .slice x4.B dn.length x4.b, .slice x4.C ((fi ++ [x.id]).length) x4.c, .int .i64 ((cm : Nat) : Int)], As.own 0 126 5 (.slice x4.A (on.eraseIdx i).length x4.a) ((on.eraseIdx i).length) (AK Ar.cells (on.eraseIdx i)), As.own 0 126 5 (.slice x4.B dn.length x4.b) dn.length (AK Ar.cells dn), As.own 0 9 1 (.slice x4.C (fi ++ [x.id]).length x4.c) ((fi ++ [x.id]).length) (AK BW (fi ++ [x.id])), As.blk g5 69 (El.cells x)] w3 := M
 refine BA M 0 rfl rfl rfl (yb rfl (yb rfl (yb rfl (ya rfl (BU rfl rfl (sc rfl) (Blk.c ((hC.fr0 (C6 hwe M.fr hFe)).blk) 3 rfl)) (ya rfl (C7 rfl rfl (sl rfl)) (yb rfl (nq (AR ?_))))))))
 obtain ⟨F5, M⟩ := Mem.closeMo (M.pk [0, 1, 2, 3, 4])
 obtain ⟨fi1, hfi1⟩ : ∃ fi1, fi1 = fi ++ [x.id] := ⟨_, rfl⟩
 rw [← hfi1] at M
 refine flp [24, 23, 5, 0] (fun ze e wr mz => ∃ (j : Nat) (on1 : List Ar) (cm1 : Nat) (F1 : List Nat), e = (25, .int .i64 ((j : Nat) : Int)) :: ze ∧ Mem w (fun k => k ∈ F) [As.mo gc V vn vc gx (⟨on1, dn, fi1, cm1⟩ : Mo) F1, As.blk g5 69 (El.cells x)] wr ∧ (j ≤ m.els.length) ∧ ((⟨on1, dn, fi1, cm1⟩ : Mo) = Mo.puts ⟨on.eraseIdx i, dn, fi1, cm⟩ (((m.els.take j).filter (fun y : El => decide ((y.kind.toNat : Int) = (1 : Int)) && decide (y.inn = x.id))).map (fun y : El => ((c.outs y.id)[0]?).getD []))) ∧ (on1.length ≤ 500000 + j) ∧ (cm1 ≤ 500000000 + j) ∧ mz = m.els.length - j) ⟨0, on.eraseIdx i, cm, _, rfl, M, Nat.zero_le _, rfl, by rw [List.length_eraseIdx]; split <;> omega, by omega, rfl⟩ ?_
 rintro _ w4 _ ⟨j, on1, cm1, F1, rfl, M, hj, hE, hb1, hb2, rfl⟩
 refine AD (AB (CB rfl rfl (AC (AA (AD (AN rfl (fun h26 => ?_) (fun h26 => ?_)))))))
 ·have h26p := (odt h26)
  refine AL (AA (AD (AR (srg ?_))))
  obtain ⟨y, hy⟩ := CA (l := m.els) (i := j) AO
  obtain ⟨b_y, o_y, hA_y⟩ := BI (k := 11) AO ((hC.fr0 (C6 hwe M.fr hFe)).md.md.els) hy
  refine ya rfl (B1 j hA_y rfl rfl rfl (sl rfl) AO) (ya rfl (AT rfl rfl (BQ El.len ((hC.fr0 (C6 hwe M.fr hFe)).md.md.els) hA_y hy) underlying69 rfl AZ) (D6 M rfl B4 fun g8 w5 hg8 M => C1 M 0 rfl rfl AZ rfl fun w6 M => AC (AA (AD (AB (yb rfl (BA M 0 rfl rfl rfl (CI rfl rfl (yb rfl (DF 6 [(0, pg gx), (5, pg g5), (23, .slice c.a.E m.els.length c.a.ec), (24, .int .i64 ((m.els.length : Nat) : Int)), (25, .int .i64 ((j : Nat) : Int)), (8, pg g8), (38, .bool ((decide ((y.kind.toNat : Int) = (1 : Int))) && (decide (y.inn = x.id))))] (fun w' => Mem w (fun k => k ∈ F) [As.blk g8 69 (El.cells y), As.mo gc V vn vc gx (⟨on1, dn, fi1, cm1⟩ : Mo) F1, As.blk g5 69 (El.cells x)] w') ?_ (fun k32 => ?_)))))))))))
  ·intro w7 M
   refine AC (AA (AN rfl (fun h38 => ?_) (fun h38 => ?_)))
   ·have h38p := (And.intro (odt (CF h38).1) (odt (CF h38).2))
    have hpos := hne y (List.mem_of_getElem? hy) (And.left h38p) (And.right h38p)
    refine DN 13 CU gkr ?_
    have M := M.drew
    iterate 4 refine sb rfl ?_
    have M := M.pk [1, 0, 2]
    obtain ⟨x8, M⟩ := Mem.openMo M
    replace M : Mem w (fun k => k ∈ F) [As.blk gx 124 [pg gc, .slice V vn vc, .slice x8.A on1.length x8.a, .slice x8.B dn.length x8.b, .slice x8.C fi1.length x8.c, .int .i64 ((cm1 : Nat) : Int)], As.own 0 126 5 (.slice x8.A on1.length x8.a) on1.length (AK Ar.cells on1), As.own 0 126 5 (.slice x8.B dn.length x8.b) dn.length (AK Ar.cells dn), As.own 0 9 1 (.slice x8.C fi1.length x8.c) fi1.length (AK BW fi1), As.blk g8 69 (El.cells y), As.blk g5 69 (El.cells x)] w7.drew := M
    refine FK M 0 rfl rfl rfl (sb rfl (sb rfl (sa rfl (BU rfl rfl (sc rfl) (Blk.c ((hC.fr0 (C6 hwe M.fr hFe)).blk) 8 rfl)) (sb rfl (FK M 4 rfl rfl rfl (sa rfl (BP rfl rfl rfl underlying64 underlying9 DE ((hC.fr0 (C6 hwe M.fr hFe)).O) (hC.getO _)) ?_))))))
    obtain ⟨q, hq⟩ := CA (l := (c.outs y.id)) (i := 0) AO
    obtain ⟨b_q, o_q, hA_q⟩ := BI (k := 1) AO ((hC.fr0 (C6 hwe M.fr hFe)).rdO _) hq
    refine sa rfl (B1 0 hA_q rfl rfl rfl (sl rfl) AO) (sa rfl (BU rfl rfl (sc rfl) (DO DU ((hC.fr0 (C6 hwe M.fr hFe)).rdO _) hA_q hq 0 rfl)) (CS ?_))
    obtain ⟨F10, M⟩ := Mem.closeMo (M.pk [0, 1, 2, 3, 4, 5])
    refine cl 52 rfl (AQ rfl rfl call60) (N1 gc V vn vc gx (⟨on1, dn, fi1, cm1⟩ : Mo) F10 q _ (by first | omega | (simp; omega) | (simp [List.length_eraseIdx]; split <;> omega)) (by first | omega | (simp; omega) | (simp [List.length_eraseIdx]; split <;> omega)) (M.ok 0 _ rfl)) ?_
    rintro _ w8 ⟨rfl, F11, hNw8, hqw8, hfw8⟩
    refine ⟨_, rfl, ?_⟩
    have M := M.updMo 0 rfl (σ' := (⟨on1 ++ [(⟨q, ((cm1 + 1 : Nat) : Int), 0, [], false⟩ : Ar)], dn, fi1, cm1 + 1⟩ : Mo)) hNw8 hqw8 hfw8
    refine AC (AH (AA (AB (ya rfl (BF rfl rfl rfl AO) (yb rfl (AC (fag ⟨j + 1, on1 ++ [(⟨q, ((cm1 + 1 : Nat) : Int), 0, [], false⟩ : Ar)], cm1 + 1, F11, rfl, (M.pk [0, 2]), ?_, ?_, ?_, ?_, rfl⟩)))))))
    ·omega
    ·first
      | exact YQ hE (B2 hy) h38 hq
      | exact eK hE (B2 hy) h38
    ·first
      | omega
      | (simp; omega)
    ·omega
   ·have h38p := ((DM h38).imp (fun z => (odf z)) (fun z => (odf z)))
    refine AL (AH (AA (AB (ya rfl (BF rfl rfl rfl AO) (yb rfl (AC (fag ⟨j + 1, on1, cm1, F1, rfl, (M.pk [1, 2]), ?_, ?_, ?_, ?_, rfl⟩)))))))
    ·omega
    ·first
      | exact YQ hE (B2 hy) h38 hq
      | exact eK hE (B2 hy) h38
    ·first
      | omega
      | (simp; omega)
    ·omega
  refine AP (d := 32) rfl (fun h32 => ?_) (fun h32 => ?_)
  ·exact gyq rfl (CH M 0 rfl rfl rfl (gyq rfl (CH M 2 rfl rfl rfl (yd rfl (D8 rfl rfl rfl) (yb rfl (k32 _ _ M ⟨rfl, rfl, rfl, rfl, rfl, rfl, (by rw [h32]; rfl), trivial⟩))))))
  ·iterate 5 refine yo rfl ?_
   exact yb rfl (k32 _ _ M ⟨rfl, rfl, rfl, rfl, rfl, rfl, (by rw [h32]; rfl), trivial⟩)
 ·have h26p := (odf h26)
  refine BG (AJ (AJ (AY (AA (srg (yb rfl (nq (AI (gr1 rfl ?_)))))))))
  obtain rfl : j = m.els.length := by omega
  rw [List.take_length] at hE
  exact ⟨rfl, lC hfi1 hE (M.pk [0])⟩
theorem pR (we : World) (m : Md) (gc : Nat) (c : CrA) (Fc : List Nat) (V : Option Addr) (vn vc gx : Nat) (σ : Mo) (F : List Nat) (i : Nat) (a : Ar) (x : El) (w : World) (h1 : σ.on.length ≤ 500000) (h2 : σ.fired.length ≤ 500000) (h3 : σ.came ≤ 500000000) (ha : σ.on[i]? = some a) (_hx : x.id.length ≤ 100000) (hne : ¬ x.inn = [] → 0 < (c.outs x.inn).length) (hC : CourseN we m gc c Fc) (hwe : Fr0 we w) (hFe : ∀ g ∈ F, we.heap.size ≤ g) (hN : MoN w gc V vn vc gx σ F) :
 Calls prog 148 #[pg gx, .int .i64 ((i : Nat) : Int), .agg x.cells.toArray] w fun e w' => e = .returned (.bool true) ∧ P6 gc V vn vc gx (σ.end_ c i x) F w w' := by
 obtain ⟨on, dn, fi, cm⟩ := σ
 dsimp only at h1 h2 h3 ha
 have hil : i < on.length := (List.getElem?_eq_some_iff.1 ha).1
 refine BC (vs := [_, _, _]) func148 rfl ntmps148 rfl ?_
 have M : Mem w (fun k => k ∈ F) [As.mo gc V vn vc gx (⟨on, dn, fi, cm⟩ : Mo) F] w := Mem.oneMo hN
 refine srg (CN M rfl rfl fun g5 w1 hg5 M => yb rfl (nq (srg (yb rfl (yb rfl (BA M 0 rfl rfl rfl (cl 10 rfl (AQ rfl rfl call164) (KJ gc V vn vc gx (⟨on, dn, fi, cm⟩ : Mo) F x.id _ (by first | omega | (simp; omega) | (simp [List.length_eraseIdx]; split <;> omega)) (M.ok 1 _ rfl)) ?_)))))))
 rintro _ w2 ⟨rfl, F2, hNw2, hqw2, hfw2⟩
 refine ⟨_, rfl, ?_⟩
 have M := M.updMo 1 rfl (σ' := (⟨on, dn, fi ++ [x.id], cm⟩ : Mo)) hNw2 hqw2 hfw2
 refine nq (srg (yb rfl (yb rfl (cl 13 rfl (AQ rfl rfl call165) (KA gc V vn vc gx (⟨on, dn, fi ++ [x.id], cm⟩ : Mo) F2 i _ (by first | omega | (simp; omega) | (simp [List.length_eraseIdx]; split <;> omega)) (by first | omega | (simp; omega)) (M.ok 1 _ rfl)) ?_))))
 rintro _ w3 ⟨rfl, F3, hNw3, hqw3, hfw3⟩
 refine ⟨_, rfl, ?_⟩
 have M := M.updMo 1 rfl (σ' := (⟨on.eraseIdx i, dn, fi ++ [x.id], cm⟩ : Mo)) hNw3 hqw3 hfw3
 refine AC (AA (AD (AD (AB (yb rfl (BA M 0 rfl rfl rfl (ya rfl (GK rfl rfl rfl) (AC (AA (AN rfl (fun h16 => ?_) (fun h16 => ?_)))))))))))
 ·have h16p := (odf (CE h16))
  have hpos := hne h16p
  have M := M.pk [1, 0]
  obtain ⟨x4, M⟩ := Mem.openMo M
  replace M : Mem w (fun k => k ∈ F) [As.blk gx 124 [pg gc, .slice V vn vc, .slice x4.A ((on.eraseIdx i).length) x4.a, .slice x4.B dn.length x4.b, .slice x4.C ((fi ++ [x.id]).length) x4.c, .int .i64 ((cm : Nat) : Int)], As.own 0 126 5 (.slice x4.A (on.eraseIdx i).length x4.a) ((on.eraseIdx i).length) (AK Ar.cells (on.eraseIdx i)), As.own 0 126 5 (.slice x4.B dn.length x4.b) dn.length (AK Ar.cells dn), As.own 0 9 1 (.slice x4.C (fi ++ [x.id]).length x4.c) ((fi ++ [x.id]).length) (AK BW (fi ++ [x.id])), As.blk g5 69 (El.cells x)] w3 := M
  refine DN 13 CU gkr ?_
  have M := M.drew
  iterate 4 refine sb rfl ?_
  refine FK M 0 rfl rfl rfl (sb rfl (sb rfl (sa rfl (BU rfl rfl (sc rfl) (Blk.c ((hC.fr0 (C6 hwe M.fr hFe)).blk) 8 rfl)) (sb rfl (FK M 4 rfl rfl rfl (sa rfl (BP rfl rfl rfl underlying64 underlying9 DE ((hC.fr0 (C6 hwe M.fr hFe)).O) (hC.getO _)) ?_))))))
  obtain ⟨q, hq⟩ := CA (l := (c.outs x.inn)) (i := 0) AO
  obtain ⟨b_q, o_q, hA_q⟩ := BI (k := 1) AO ((hC.fr0 (C6 hwe M.fr hFe)).rdO _) hq
  refine sa rfl (B1 0 hA_q rfl rfl rfl (sl rfl) AO) (sa rfl (BU rfl rfl (sc rfl) (DO DU ((hC.fr0 (C6 hwe M.fr hFe)).rdO _) hA_q hq 0 rfl)) (CS ?_))
  obtain ⟨F6, M⟩ := Mem.closeMo (M.pk [0, 1, 2, 3, 4])
  refine cl 30 rfl (AQ rfl rfl call60) (N1 gc V vn vc gx (⟨on.eraseIdx i, dn, fi ++ [x.id], cm⟩ : Mo) F6 q _ (by first | omega | (simp; omega) | (simp [List.length_eraseIdx]; split <;> omega)) (by first | omega | (simp; omega) | (simp [List.length_eraseIdx]; split <;> omega)) (M.ok 0 _ rfl)) ?_
  rintro _ w4 ⟨rfl, F7, hNw4, hqw4, hfw4⟩
  refine ⟨_, rfl, ?_⟩
  have M := M.updMo 0 rfl (σ' := (⟨on.eraseIdx i ++ [(⟨q, ((cm + 1 : Nat) : Int), 0, [], false⟩ : Ar)], dn, fi ++ [x.id], cm + 1⟩ : Mo)) hNw4 hqw4 hfw4
  refine nq (srg (yb rfl (nq (AI (gr1 rfl ?_)))))
  have hE := n6 (dn := dn) (fi := fi) (cm := cm) (on := on) (i := i) h16p hq
  exact ⟨rfl, hE ▸ GY (M.pk [0])⟩
 ·have h16p := (odt (BM h16))
  refine AL (AA (srg (yb rfl (nq (AI (gr1 rfl ?_))))))
  have hE := pQ (c := c) (dn := dn) (fi := fi) (cm := cm) (on := on) (i := i) h16p
  exact ⟨rfl, hE ▸ GY (M.pk [1])⟩
end Go.Proofs.YtjaocmocdhckaaaGreatDoor
