/- Lemmas that the last text rests on. Condition: each says its own. -/
import Derived.Test.YtjaocmocdhckaaaGreatDoorZMw2
set_option maxHeartbeats 16000000
set_option maxRecDepth 100000
namespace Go.Proofs.YtjaocmocdhckaaaGreatDoor
open Go.RowKit
open Tryz
def Mo.rest (σ : Mo) (i : Nat) (a : Ar) (x : El) : Mo := ⟨σ.on.eraseIdx i, σ.done ++ [(⟨a.flow, a.order, a.rests, x.id, a.stops⟩ : Ar)], σ.fired ++ [x.id ++ [43]], σ.came⟩
def Mo.puts (σ : Mo) (l : List (List UInt8)) : Mo := l.foldl Mo.put σ
theorem Mo.puts_snoc (σ : Mo) (l : List (List UInt8)) (f : List UInt8) : σ.puts (l ++ [f]) = (σ.puts l).put f := by unfold Mo.puts; rw [List.foldl_append]; rfl
def Mo.sub (σ : Mo) (m : Md) (c : CrA) (i : Nat) (x : El) : Mo := Mo.puts ⟨σ.on.eraseIdx i, σ.done, σ.fired ++ [x.id], σ.came⟩ ((m.els.filter fun y : El => decide ((y.kind.toNat : Int) = (1 : Int)) && decide (y.inn = x.id)).map fun y : El => ((c.outs y.id)[0]?).getD [])
def Mo.end_ (σ : Mo) (c : CrA) (i : Nat) (x : El) : Mo := if x.inn = [] then ⟨σ.on.eraseIdx i, σ.done, σ.fired ++ [x.id], σ.came⟩ else Mo.put ⟨σ.on.eraseIdx i, σ.done, σ.fired ++ [x.id], σ.came⟩ (((c.outs x.inn)[0]?).getD [])
theorem fL {l l' : List El} {p : El → Bool} {h : El → List UInt8} {σ0 σ : Mo} {y : El} (hE : σ = σ0.puts ((l.filter p).map h)) (hl : l' = l ++ [y]) (hp : p y = false) : σ = σ0.puts ((l'.filter p).map h) := by
 rw [hl, List.filter_append, List.filter_cons_of_neg (by rw [hp]; decide), List.filter_nil, List.append_nil]; exact hE
theorem ZF {l l' : List El} {p : El → Bool} {c : CrA} {σ0 : Mo} {on dn : List Ar} {fi : List (List UInt8)} {cm : Nat} {y : El} {q : List UInt8} (hE : (⟨on, dn, fi, cm⟩ : Mo) = σ0.puts ((l.filter p).map fun y : El => ((c.outs y.id)[0]?).getD [])) (hl : l' = l ++ [y]) (hp : p y = true) (hq : (c.outs y.id)[0]? = some q) :
 (⟨on ++ [(⟨q, ((cm + 1 : Nat) : Int), 0, [], false⟩ : Ar)], dn, fi, cm + 1⟩ : Mo) = σ0.puts ((l'.filter p).map fun y : El => ((c.outs y.id)[0]?).getD []) := by
 rw [hl, List.filter_append, List.filter_cons_of_pos hp, List.filter_nil, List.map_append, List.map_cons, List.map_nil, Mo.puts_snoc, ← hE, hq]; rfl
theorem m6 {gc vn vc gx : Nat} {V : Option Addr} {m : Md} {c : CrA} {i : Nat} {x : El} {on on1 dn : List Ar} {fi fi1 : List (List UInt8)} {cm cm1 : Nat} {F F' : List Nat} {w w' : World} {Ls : List As} (h1 : fi1 = fi ++ [x.id]) (hE : (⟨on1, dn, fi1, cm1⟩ : Mo) = Mo.puts ⟨on.eraseIdx i, dn, fi1, cm⟩ ((m.els.filter fun y : El => decide ((y.kind.toNat : Int) = (1 : Int)) && decide (y.inn = x.id)).map fun y : El => ((c.outs y.id)[0]?).getD []))
 (M : Mem w (fun k => k ∈ F) (As.mo gc V vn vc gx ⟨on1, dn, fi1, cm1⟩ F' :: Ls) w') : PZ gc V vn vc gx (Mo.sub ⟨on, dn, fi, cm⟩ m c i x) F w w' := by
 subst h1
 rw [Mo.sub, ← hE]
 exact HF M
theorem o1 {c : CrA} {on dn : List Ar} {fi : List (List UInt8)} {cm i : Nat} {x : El} {q : List UInt8} (h : ¬ x.inn = []) (hq : (c.outs x.inn)[0]? = some q) : (⟨on.eraseIdx i ++ [(⟨q, ((cm + 1 : Nat) : Int), 0, [], false⟩ : Ar)], dn, fi ++ [x.id], cm + 1⟩ : Mo) = Mo.end_ ⟨on, dn, fi, cm⟩ c i x := by
 rw [Mo.end_, if_neg h, hq]; rfl
theorem qW {c : CrA} {on dn : List Ar} {fi : List (List UInt8)} {cm i : Nat} {x : El} (h : x.inn = []) : (⟨on.eraseIdx i, dn, fi ++ [x.id], cm⟩ : Mo) = Mo.end_ ⟨on, dn, fi, cm⟩ c i x := by
 rw [Mo.end_, if_pos h]
theorem QO (gc : Nat) (V : Option Addr) (vn vc gx : Nat) (σ : Mo) (F : List Nat) (i : Nat) (a : Ar) (x : El) (w : World) (h1 : σ.on.length ≤ 500000) (h2 : σ.fired.length ≤ 500000) (h3 : σ.came ≤ 500000000) (h4 : σ.done.length ≤ 500000) (ha : σ.on[i]? = some a) (_hx : x.id.length ≤ 100000) (hN : MoN w gc V vn vc gx σ F) :
 Calls prog 146 #[pg gx, AJ ((i : Nat) : Int), .agg x.cells.toArray] w fun e w' => e = .returned (.bool true) ∧ PZ gc V vn vc gx (σ.rest i a x) F w w' := by
 obtain ⟨on, dn, fi, cm⟩ := σ
 dsimp only at h1 h2 h3 ha
 have hil : i < on.length := (List.getElem?_eq_some_iff.1 ha).1
 dsimp only at h4
 refine BE (vs := [_, _, _]) func146 rfl ntmps146 rfl ?_
 have M : Mem w (fun k => k ∈ F) [As.mo gc V vn vc gx (⟨on, dn, fi, cm⟩ : Mo) F] w := Mem.oneMo hN
 refine srg (CR M rfl rfl fun g5 w1 hg5 M => AY rfl (AQ rfl (yb rfl (BC M 0 rfl rfl rfl (ya rfl (GB rfl rfl rfl CX) (cl 12 rfl (AP rfl rfl call164) (KZ gc V vn vc gx (⟨on, dn, fi, cm⟩ : Mo) F (x.id ++ [43]) _ (by first | omega | (simp; omega) | (simp [List.length_eraseIdx]; split <;> omega)) (M.ok 1 _ rfl)) ?_))))))
 rintro _ w2 ⟨rfl, F2, hNw2, hqw2, hfw2⟩
 refine ⟨_, rfl, ?_⟩
 have M := M.updMo 1 rfl (σ' := (⟨on, dn, fi ++ [(x.id ++ [43])], cm⟩ : Mo)) hNw2 hqw2 hfw2
 refine nq (AQ rfl (BM rfl rfl ?_))
 have M := M.pk [1, 0]
 obtain ⟨x3, M⟩ := Mem.openMo M
 replace M : Mem w (fun k => k ∈ F) [As.blk gx 124 [pg gc, .slice V vn vc, .slice x3.A on.length x3.a, .slice x3.B dn.length x3.b, .slice x3.C ((fi ++ [(x.id ++ [43])]).length) x3.c, AJ ((cm : Nat) : Int)], As.own 0 126 5 (.slice x3.A on.length x3.a) on.length (AH Ar.cells on), As.own 0 126 5 (.slice x3.B dn.length x3.b) dn.length (AH Ar.cells dn), As.own 0 9 1 (.slice x3.C (fi ++ [(x.id ++ [43])]).length x3.c) ((fi ++ [(x.id ++ [43])]).length) (AH BY (fi ++ [(x.id ++ [43])])), As.blk g5 69 (El.cells x)] w2 := M
 refine BC M 0 rfl rfl rfl (yb rfl ?_)
 obtain ⟨b4_a, o4_a, hA4_a⟩ := BI (k := 5) AM (M.rdOwn 1 rfl) ha
 refine ya rfl (B1 i hA4_a rfl rfl rfl (sl rfl) AM) (ya rfl (AU rfl rfl (BV Ar.len (M.rdOwn 1 rfl) hA4_a ha) underlying126 rfl B8) (DC M rfl G3 fun g7 w3 hg7 M => C4 M 0 rfl rfl B8 rfl fun w4 M => nq (AQ rfl (BC M 5 rfl rfl rfl (yb rfl (gp1 M 0 rfl rfl rfl G5 fun w5 M => AR ?_))))))
 refine AD (AQ rfl (yb rfl ?_))
 obtain ⟨F6, M⟩ := Mem.closeMo (M.pk [1, 2, 3, 4, 0, 5])
 refine cl 25 rfl (AP rfl rfl call165) (KQ gc V vn vc gx (⟨on, dn, fi ++ [(x.id ++ [43])], cm⟩ : Mo) F6 i _ (by first | omega | (simp; omega) | (simp [List.length_eraseIdx]; split <;> omega)) CX (M.ok 0 _ rfl)) ?_
 rintro _ w6 ⟨rfl, F7, hNw6, hqw6, hfw6⟩
 refine ⟨_, rfl, ?_⟩
 have M := M.updMo 0 rfl (σ' := (⟨on.eraseIdx i, dn, fi ++ [(x.id ++ [43])], cm⟩ : Mo)) hNw6 hqw6 hfw6
 refine nq (AF ?_)
 obtain ⟨x8, M⟩ := Mem.openMo M
 replace M : Mem w (fun k => k ∈ F) [As.blk gx 124 [pg gc, .slice V vn vc, .slice x8.A ((on.eraseIdx i).length) x8.a, .slice x8.B dn.length x8.b, .slice x8.C ((fi ++ [(x.id ++ [43])]).length) x8.c, AJ ((cm : Nat) : Int)], As.own 0 126 5 (.slice x8.A (on.eraseIdx i).length x8.a) ((on.eraseIdx i).length) (AH Ar.cells (on.eraseIdx i)), As.own 0 126 5 (.slice x8.B dn.length x8.b) dn.length (AH Ar.cells dn), As.own 0 9 1 (.slice x8.C (fi ++ [(x.id ++ [43])]).length x8.c) ((fi ++ [(x.id ++ [43])]).length) (AH BY (fi ++ [(x.id ++ [43])])), As.blk g7 126 [str a.flow, AJ a.order, AJ a.rests, str x.id, .bool a.stops], As.blk g5 69 (El.cells x)] w6 := M
 refine CV 8 (fun w' => Mem w (fun k => k ∈ F) [As.blk gx 124 [pg gc, .slice V vn vc, .slice x8.A ((on.eraseIdx i).length) x8.a, .slice x8.B dn.length x8.b, .slice x8.C ((fi ++ [(x.id ++ [43])]).length) x8.c, AJ ((cm : Nat) : Int)], As.own 0 126 5 (.slice x8.A (on.eraseIdx i).length x8.a) ((on.eraseIdx i).length) (AH Ar.cells (on.eraseIdx i)), As.own 0 9 1 (.slice x8.C (fi ++ [(x.id ++ [43])]).length x8.c) ((fi ++ [(x.id ++ [43])]).length) (AH BY (fi ++ [(x.id ++ [43])])), As.blk g7 126 [str a.flow, AJ a.order, AJ a.rests, str x.id, .bool a.stops], As.blk g5 69 (El.cells x)] w') CZ ?_
 have M := M.drew
 refine oc 0 8 rfl rfl (M.pk [0, 1, 3, 4, 5]) (oc 1 8 rfl rfl (M.pk [0, 1, 3, 4, 5]) (oc 2 8 rfl rfl (M.pk [0, 1, 3, 4, 5]) (oc 3 8 rfl rfl (M.pk [0, 1, 3, 4, 5]) (ol 4 8 rfl rfl rfl (M.pk [0, 1, 3, 4, 5]) (fun _ M => (M.cell 0 rfl rfl)) (oa 5 8 rfl rfl (M.pk [0, 1, 3, 4, 5]) (fun _ M => AU (xs := [str a.flow, AJ a.order, AJ a.rests, str x.id, .bool a.stops]) rfl rfl (M.rdBlk 3 rfl rfl) underlying126 rfl B8) (BB 6 (some 32) gkr rfl (AA rfl) rfl rfl (fun ρ hρ => DR [.agg #[str a.flow, AJ a.order, AJ a.rests, str x.id, .bool a.stops]] _ hρ rfl rfl rfl rfl underlying122 I6 BU BU (HE rfl)) ?_))))))
 rintro _ w7 ⟨g32, rfl, hg32, hq32, hb32, hfw7⟩
 replace hb32 : Blk w7 g32 126 ([str a.flow, AJ a.order, AJ a.rests, str x.id, .bool a.stops]) := hb32
 refine ⟨fun _ => (M.pk [0, 1, 3, 4, 5]).step hfw7, ?_⟩
 have M := M.push hfw7 _ hb32 (EB hg32 hq32)
 replace M : Mem w (fun k => k ∈ F) (As.blk g32 126 ([str a.flow, AJ a.order, AJ a.rests, str x.id, .bool a.stops]) :: _) w7 := M
 refine BB 7 (some 33) gkr rfl (AA rfl) rfl rfl (fun ρ hρ => DL _ _ _ rfl 0 _ _ _ _ underlying122 FJ rfl BU _ _ _ (hρ _ _ rfl) (M.own 3 rfl) _ _ _ _ (hρ _ _ rfl) (M.rdBlk 0 rfl rfl) (BP rfl) (by unfold maxLen; first | omega | (simp only [List.length_append, List.length_cons, List.length_nil]; omega)) CX (Nat.zero_le _)) ?_
 rintro v33 w8 ⟨ho33, hgr33, hvb33⟩
 replace ho33 : World.ownsRow w8 0 126 5 v33 ((dn ++ [(⟨a.flow, a.order, a.rests, x.id, a.stops⟩ : Ar)]).length) (AH Ar.cells (dn ++ [(⟨a.flow, a.order, a.rests, x.id, a.stops⟩ : Ar)])) := by rw [show ((dn ++ [(⟨a.flow, a.order, a.rests, x.id, a.stops⟩ : Ar)]).length) = dn.length + 1 from by first | (simp only [List.length_append, List.length_cons, List.length_nil]; omega) | simp only [List.length_append, List.length_cons, List.length_nil], show (AH Ar.cells (dn ++ [(⟨a.flow, a.order, a.rests, x.id, a.stops⟩ : Ar)])) = (AH Ar.cells dn) ++ [str a.flow, AJ a.order, AJ a.rests, str x.id, .bool a.stops] from by first | exact C1 _ _ _ | simp [AH]]; exact ho33
 have M := M.appOwn 3 rfl ho33 hgr33 hvb33
 obtain ⟨A33, c33, rfl, _⟩ := E8 ho33
 refine ⟨fun _ => (M.pk [1, 2, 4, 5, 6]), fo1 8 rfl rfl (yp rfl) (fo1 9 rfl rfl (yp rfl) (BB 10 none gkr rfl (AA rfl) rfl rfl (fun ρ hρ => E9 122 _ _ rfl gx 3 124 _ (.slice A33 ((dn ++ [(⟨a.flow, a.order, a.rests, x.id, a.stops⟩ : Ar)]).length) c33) (hρ _ _ rfl) (hρ _ _ rfl) rfl (M.blk 1 rfl) FY (CO rfl) rfl) ?_))⟩
 rintro _ w9 ⟨rfl, hbw9, hfw9⟩
 replace M : Mem w (fun k => k ∈ F) (List.set _ 1 (As.blk gx 124 [pg gc, .slice V vn vc, .slice x8.A ((on.eraseIdx i).length) x8.a, .slice A33 ((dn ++ [(⟨a.flow, a.order, a.rests, x.id, a.stops⟩ : Ar)]).length) c33, .slice x8.C ((fi ++ [(x.id ++ [43])]).length) x8.c, AJ ((cm : Nat) : Int)])) w9 := M.putB 1 rfl hbw9 hfw9
 refine ⟨fun h => absurd h BU, fdn (AD (AQ rfl (gnr (gr1 rfl ?_))))⟩
 obtain ⟨F10, M⟩ := Mem.closeMo (M.pk [1, 2, 3, 4, 0, 5, 6])
 exact ⟨rfl, HF (M.pk [0])⟩
theorem pN (we : World) (m : Md) (gc : Nat) (c : CrA) (Fc : List Nat) (V : Option Addr) (vn vc gx : Nat) (σ : Mo) (F : List Nat) (i : Nat) (a : Ar) (x : El) (w : World) (h1 : σ.on.length ≤ 500000) (h2 : σ.fired.length ≤ 500000) (h3 : σ.came ≤ 500000000) (ha : σ.on[i]? = some a) (_hx : x.id.length ≤ 100000) (ho : MdOk m) (hne : ∀ y ∈ m.els, (y.kind.toNat : Int) = 1 → y.inn = x.id → 0 < (c.outs y.id).length) (hC : CourseN we m gc c Fc) (hwe : Fr0 we w) (hFe : ∀ g ∈ F, we.heap.size ≤ g) (hN : MoN w gc V vn vc gx σ F) :
 Calls prog 147 #[pg gx, AJ ((i : Nat) : Int), .agg x.cells.toArray] w fun e w' => e = .returned (.bool true) ∧ PZ gc V vn vc gx (σ.sub m c i x) F w w' := by
 obtain ⟨on, dn, fi, cm⟩ := σ
 dsimp only at h1 h2 h3 ha
 have hil : i < on.length := (List.getElem?_eq_some_iff.1 ha).1
 have hnf := ho.nfls
 have hne2 := ho.nels
 refine BE (vs := [_, _, _]) func147 rfl ntmps147 rfl ?_
 have M : Mem w (fun k => k ∈ F) [As.mo gc V vn vc gx (⟨on, dn, fi, cm⟩ : Mo) F] w := Mem.oneMo hN
 refine srg (CR M rfl rfl fun g5 w1 hg5 M => AY rfl (AQ rfl (yb rfl (BC M 0 rfl rfl rfl (cl 12 rfl (AP rfl rfl call164) (KZ gc V vn vc gx (⟨on, dn, fi, cm⟩ : Mo) F x.id _ (by first | omega | (simp; omega) | (simp [List.length_eraseIdx]; split <;> omega)) (M.ok 1 _ rfl)) ?_)))))
 rintro _ w2 ⟨rfl, F2, hNw2, hqw2, hfw2⟩
 refine ⟨_, rfl, ?_⟩
 have M := M.updMo 1 rfl (σ' := (⟨on, dn, fi ++ [x.id], cm⟩ : Mo)) hNw2 hqw2 hfw2
 refine nq (AQ rfl (yb rfl (cl 15 rfl (AP rfl rfl call165) (KQ gc V vn vc gx (⟨on, dn, fi ++ [x.id], cm⟩ : Mo) F2 i _ (by first | omega | (simp; omega) | (simp [List.length_eraseIdx]; split <;> omega)) CX (M.ok 1 _ rfl)) ?_)))
 rintro _ w3 ⟨rfl, F3, hNw3, hqw3, hfw3⟩
 refine ⟨_, rfl, ?_⟩
 have M := M.updMo 1 rfl (σ' := (⟨on.eraseIdx i, dn, fi ++ [x.id], cm⟩ : Mo)) hNw3 hqw3 hfw3
 refine nq (AF (AQ rfl (BM rfl rfl ?_)))
 have M := M.pk [1, 0]
 obtain ⟨x4, M⟩ := Mem.openMo M
 replace M : Mem w (fun k => k ∈ F) [As.blk gx 124 [pg gc, .slice V vn vc, .slice x4.A ((on.eraseIdx i).length) x4.a, .slice x4.B dn.length x4.b, .slice x4.C ((fi ++ [x.id]).length) x4.c, AJ ((cm : Nat) : Int)], As.own 0 126 5 (.slice x4.A (on.eraseIdx i).length x4.a) ((on.eraseIdx i).length) (AH Ar.cells (on.eraseIdx i)), As.own 0 126 5 (.slice x4.B dn.length x4.b) dn.length (AH Ar.cells dn), As.own 0 9 1 (.slice x4.C (fi ++ [x.id]).length x4.c) ((fi ++ [x.id]).length) (AH BY (fi ++ [x.id])), As.blk g5 69 (El.cells x)] w3 := M
 refine BC M 0 rfl rfl rfl (BM rfl rfl (yb rfl (ya rfl (BW rfl rfl (sc rfl) (Blk.c ((hC.fr0 (CA hwe M.fr hFe)).blk) 3 rfl)) (ya rfl (C3 rfl rfl (sl rfl)) (AY rfl (AS ?_))))))
 obtain ⟨F5, M⟩ := Mem.closeMo (M.pk [0, 1, 2, 3, 4])
 obtain ⟨fi1, hfi1⟩ : ∃ fi1, fi1 = fi ++ [x.id] := ⟨_, rfl⟩
 rw [← hfi1] at M
 refine flp [24, 23, 5, 0] (fun ze e wr mz => ∃ (j : Nat) (on1 : List Ar) (cm1 : Nat) (F1 : List Nat), e = (25, AJ ((j : Nat) : Int)) :: ze ∧ Mem w (fun k => k ∈ F) [As.mo gc V vn vc gx (⟨on1, dn, fi1, cm1⟩ : Mo) F1, As.blk g5 69 (El.cells x)] wr ∧ (j ≤ m.els.length) ∧ ((⟨on1, dn, fi1, cm1⟩ : Mo) = Mo.puts ⟨on.eraseIdx i, dn, fi1, cm⟩ (((m.els.take j).filter (fun y : El => decide ((y.kind.toNat : Int) = (1 : Int)) && decide (y.inn = x.id))).map (fun y : El => ((c.outs y.id)[0]?).getD []))) ∧ (on1.length ≤ 500000 + j) ∧ (cm1 ≤ 500000000 + j) ∧ mz = m.els.length - j) ⟨0, on.eraseIdx i, cm, _, rfl, M, Nat.zero_le _, rfl, by rw [List.length_eraseIdx]; split <;> omega, by omega, rfl⟩ ?_
 rintro _ w4 _ ⟨j, on1, cm1, F1, rfl, M, hj, hE, hb1, hb2, rfl⟩
 refine srg (CF rfl rfl (nq (AF (AL rfl (fun h26 => ?_) (fun h26 => ?_)))))
 ·have h26p := (odt h26)
  refine AI (AD (AF (AS (srg ?_))))
  obtain ⟨y, hy⟩ := CC (l := m.els) (i := j) AM
  obtain ⟨b_y, o_y, hA_y⟩ := BI (k := 11) AM ((hC.fr0 (CA hwe M.fr hFe)).md.md.els) hy
  refine ya rfl (B1 j hA_y rfl rfl rfl (sl rfl) AM) (ya rfl (AU rfl rfl (BV El.len ((hC.fr0 (CA hwe M.fr hFe)).md.md.els) hA_y hy) underlying69 rfl B2) (DC M rfl B6 fun g8 w5 hg8 M => C4 M 0 rfl rfl B2 rfl fun w6 M => nq (AQ rfl (BC M 0 rfl rfl rfl (CN rfl rfl (yb rfl (DI 6 [(0, pg gx), (5, pg g5), (23, .slice c.a.E m.els.length c.a.ec), (24, AJ ((m.els.length : Nat) : Int)), (25, AJ ((j : Nat) : Int)), (8, pg g8), (38, .bool ((decide ((y.kind.toNat : Int) = (1 : Int))) && (decide (y.inn = x.id))))] (fun w' => Mem w (fun k => k ∈ F) [As.blk g8 69 (El.cells y), As.mo gc V vn vc gx (⟨on1, dn, fi1, cm1⟩ : Mo) F1, As.blk g5 69 (El.cells x)] w') ?_ (fun k32 => ?_))))))))
  ·intro w7 M
   refine nq (AL rfl (fun h38 => ?_) (fun h38 => ?_))
   ·have h38p := (And.intro (odt (CL h38).1) (odt (CL h38).2))
    have hpos := hne y (List.mem_of_getElem? hy) (And.left h38p) (And.right h38p)
    refine DP 13 CZ gkr ?_
    have M := M.drew
    iterate 4 refine sb rfl ?_
    have M := M.pk [1, 0, 2]
    obtain ⟨x8, M⟩ := Mem.openMo M
    replace M : Mem w (fun k => k ∈ F) [As.blk gx 124 [pg gc, .slice V vn vc, .slice x8.A on1.length x8.a, .slice x8.B dn.length x8.b, .slice x8.C fi1.length x8.c, AJ ((cm1 : Nat) : Int)], As.own 0 126 5 (.slice x8.A on1.length x8.a) on1.length (AH Ar.cells on1), As.own 0 126 5 (.slice x8.B dn.length x8.b) dn.length (AH Ar.cells dn), As.own 0 9 1 (.slice x8.C fi1.length x8.c) fi1.length (AH BY fi1), As.blk g8 69 (El.cells y), As.blk g5 69 (El.cells x)] w7.drew := M
    refine FL M 0 rfl rfl rfl (sb rfl (sb rfl (sa rfl (BW rfl rfl (sc rfl) (Blk.c ((hC.fr0 (CA hwe M.fr hFe)).blk) 8 rfl)) (sb rfl (FL M 4 rfl rfl rfl (sa rfl (BT rfl rfl rfl underlying64 underlying9 DH ((hC.fr0 (CA hwe M.fr hFe)).O) (hC.getO _)) ?_))))))
    obtain ⟨q, hq⟩ := CC (l := (c.outs y.id)) (i := 0) AM
    obtain ⟨b_q, o_q, hA_q⟩ := BI (k := 1) AM ((hC.fr0 (CA hwe M.fr hFe)).rdO _) hq
    refine sa rfl (B1 0 hA_q rfl rfl rfl (sl rfl) AM) (sa rfl (BW rfl rfl (sc rfl) (DQ E0 ((hC.fr0 (CA hwe M.fr hFe)).rdO _) hA_q hq 0 rfl)) (CS ?_))
    obtain ⟨F10, M⟩ := Mem.closeMo (M.pk [0, 1, 2, 3, 4, 5])
    refine cl 52 rfl (AP rfl rfl call60) (NJ gc V vn vc gx (⟨on1, dn, fi1, cm1⟩ : Mo) F10 q _ (by first | omega | (simp; omega) | (simp [List.length_eraseIdx]; split <;> omega)) (by first | omega | (simp; omega) | (simp [List.length_eraseIdx]; split <;> omega)) (M.ok 0 _ rfl)) ?_
    rintro _ w8 ⟨rfl, F11, hNw8, hqw8, hfw8⟩
    refine ⟨_, rfl, ?_⟩
    have M := M.updMo 0 rfl (σ' := (⟨on1 ++ [(⟨q, ((cm1 + 1 : Nat) : Int), 0, [], false⟩ : Ar)], dn, fi1, cm1 + 1⟩ : Mo)) hNw8 hqw8 hfw8
    refine AR (AE (AD (AK (ya rfl (BO rfl rfl rfl AM) (yb rfl (AR (fag ⟨j + 1, on1 ++ [(⟨q, ((cm1 + 1 : Nat) : Int), 0, [], false⟩ : Ar)], cm1 + 1, F11, rfl, (M.pk [0, 2]), ?_, ?_, ?_, ?_, rfl⟩)))))))
    ·omega
    ·first
      | exact ZF hE (B4 hy) h38 hq
      | exact fL hE (B4 hy) h38
    ·first
      | omega
      | (simp; omega)
    ·omega
   ·have h38p := ((DT h38).imp (fun z => (odf z)) (fun z => (odf z)))
    refine AI (AE (AD (AK (ya rfl (BO rfl rfl rfl AM) (yb rfl (AR (fag ⟨j + 1, on1, cm1, F1, rfl, (M.pk [1, 2]), ?_, ?_, ?_, ?_, rfl⟩)))))))
    ·omega
    ·first
      | exact ZF hE (B4 hy) h38 hq
      | exact fL hE (B4 hy) h38
    ·first
      | omega
      | (simp; omega)
    ·omega
  refine AO (d := 32) rfl (fun h32 => ?_) (fun h32 => ?_)
  ·exact gyq rfl (CJ M 0 rfl rfl rfl (gyq rfl (CJ M 2 rfl rfl rfl (yd rfl (DM rfl rfl rfl) (yb rfl (k32 _ _ M ⟨rfl, rfl, rfl, rfl, rfl, rfl, (by rw [h32]; rfl), trivial⟩))))))
  ·iterate 5 refine yo rfl ?_
   exact yb rfl (k32 _ _ M ⟨rfl, rfl, rfl, rfl, rfl, rfl, (by rw [h32]; rfl), trivial⟩)
 ·have h26p := (odf h26)
  refine BF (AG (AG (AV (AD (AQ rfl (gnr (gr1 rfl ?_)))))))
  obtain rfl : j = m.els.length := by omega
  rw [List.take_length] at hE
  exact ⟨rfl, m6 hfi1 hE (M.pk [0])⟩
theorem qX (we : World) (m : Md) (gc : Nat) (c : CrA) (Fc : List Nat) (V : Option Addr) (vn vc gx : Nat) (σ : Mo) (F : List Nat) (i : Nat) (a : Ar) (x : El) (w : World) (h1 : σ.on.length ≤ 500000) (h2 : σ.fired.length ≤ 500000) (h3 : σ.came ≤ 500000000) (ha : σ.on[i]? = some a) (_hx : x.id.length ≤ 100000) (hne : ¬ x.inn = [] → 0 < (c.outs x.inn).length) (hC : CourseN we m gc c Fc) (hwe : Fr0 we w) (hFe : ∀ g ∈ F, we.heap.size ≤ g) (hN : MoN w gc V vn vc gx σ F) :
 Calls prog 148 #[pg gx, AJ ((i : Nat) : Int), .agg x.cells.toArray] w fun e w' => e = .returned (.bool true) ∧ PZ gc V vn vc gx (σ.end_ c i x) F w w' := by
 obtain ⟨on, dn, fi, cm⟩ := σ
 dsimp only at h1 h2 h3 ha
 have hil : i < on.length := (List.getElem?_eq_some_iff.1 ha).1
 refine BE (vs := [_, _, _]) func148 rfl ntmps148 rfl ?_
 have M : Mem w (fun k => k ∈ F) [As.mo gc V vn vc gx (⟨on, dn, fi, cm⟩ : Mo) F] w := Mem.oneMo hN
 refine srg (CR M rfl rfl fun g5 w1 hg5 M => AY rfl (AQ rfl (yb rfl (BC M 0 rfl rfl rfl (cl 10 rfl (AP rfl rfl call164) (KZ gc V vn vc gx (⟨on, dn, fi, cm⟩ : Mo) F x.id _ (by first | omega | (simp; omega) | (simp [List.length_eraseIdx]; split <;> omega)) (M.ok 1 _ rfl)) ?_)))))
 rintro _ w2 ⟨rfl, F2, hNw2, hqw2, hfw2⟩
 refine ⟨_, rfl, ?_⟩
 have M := M.updMo 1 rfl (σ' := (⟨on, dn, fi ++ [x.id], cm⟩ : Mo)) hNw2 hqw2 hfw2
 refine nq (AQ rfl (yb rfl (cl 13 rfl (AP rfl rfl call165) (KQ gc V vn vc gx (⟨on, dn, fi ++ [x.id], cm⟩ : Mo) F2 i _ (by first | omega | (simp; omega) | (simp [List.length_eraseIdx]; split <;> omega)) CX (M.ok 1 _ rfl)) ?_)))
 rintro _ w3 ⟨rfl, F3, hNw3, hqw3, hfw3⟩
 refine ⟨_, rfl, ?_⟩
 have M := M.updMo 1 rfl (σ' := (⟨on.eraseIdx i, dn, fi ++ [x.id], cm⟩ : Mo)) hNw3 hqw3 hfw3
 refine nq (AF (AQ rfl (BC M 0 rfl rfl rfl (ya rfl (FP rfl rfl rfl) (nq (AL rfl (fun h16 => ?_) (fun h16 => ?_)))))))
 ·have h16p := (odf (CK h16))
  have hpos := hne h16p
  have M := M.pk [1, 0]
  obtain ⟨x4, M⟩ := Mem.openMo M
  replace M : Mem w (fun k => k ∈ F) [As.blk gx 124 [pg gc, .slice V vn vc, .slice x4.A ((on.eraseIdx i).length) x4.a, .slice x4.B dn.length x4.b, .slice x4.C ((fi ++ [x.id]).length) x4.c, AJ ((cm : Nat) : Int)], As.own 0 126 5 (.slice x4.A (on.eraseIdx i).length x4.a) ((on.eraseIdx i).length) (AH Ar.cells (on.eraseIdx i)), As.own 0 126 5 (.slice x4.B dn.length x4.b) dn.length (AH Ar.cells dn), As.own 0 9 1 (.slice x4.C (fi ++ [x.id]).length x4.c) ((fi ++ [x.id]).length) (AH BY (fi ++ [x.id])), As.blk g5 69 (El.cells x)] w3 := M
  refine DP 13 CZ gkr ?_
  have M := M.drew
  iterate 4 refine sb rfl ?_
  refine FL M 0 rfl rfl rfl (sb rfl (sb rfl (sa rfl (BW rfl rfl (sc rfl) (Blk.c ((hC.fr0 (CA hwe M.fr hFe)).blk) 8 rfl)) (sb rfl (FL M 4 rfl rfl rfl (sa rfl (BT rfl rfl rfl underlying64 underlying9 DH ((hC.fr0 (CA hwe M.fr hFe)).O) (hC.getO _)) ?_))))))
  obtain ⟨q, hq⟩ := CC (l := (c.outs x.inn)) (i := 0) AM
  obtain ⟨b_q, o_q, hA_q⟩ := BI (k := 1) AM ((hC.fr0 (CA hwe M.fr hFe)).rdO _) hq
  refine sa rfl (B1 0 hA_q rfl rfl rfl (sl rfl) AM) (sa rfl (BW rfl rfl (sc rfl) (DQ E0 ((hC.fr0 (CA hwe M.fr hFe)).rdO _) hA_q hq 0 rfl)) (CS ?_))
  obtain ⟨F6, M⟩ := Mem.closeMo (M.pk [0, 1, 2, 3, 4])
  refine cl 30 rfl (AP rfl rfl call60) (NJ gc V vn vc gx (⟨on.eraseIdx i, dn, fi ++ [x.id], cm⟩ : Mo) F6 q _ (by first | omega | (simp; omega) | (simp [List.length_eraseIdx]; split <;> omega)) (by first | omega | (simp; omega) | (simp [List.length_eraseIdx]; split <;> omega)) (M.ok 0 _ rfl)) ?_
  rintro _ w4 ⟨rfl, F7, hNw4, hqw4, hfw4⟩
  refine ⟨_, rfl, ?_⟩
  have M := M.updMo 0 rfl (σ' := (⟨on.eraseIdx i ++ [(⟨q, ((cm + 1 : Nat) : Int), 0, [], false⟩ : Ar)], dn, fi ++ [x.id], cm + 1⟩ : Mo)) hNw4 hqw4 hfw4
  refine nq (AQ rfl (gnr (gr1 rfl ?_)))
  have hE := o1 (dn := dn) (fi := fi) (cm := cm) (on := on) (i := i) h16p hq
  exact ⟨rfl, hE ▸ HF (M.pk [0])⟩
 ·have h16p := (odt (BQ h16))
  refine AI (AD (AQ rfl (gnr (gr1 rfl ?_))))
  have hE := qW (c := c) (dn := dn) (fi := fi) (cm := cm) (on := on) (i := i) h16p
  exact ⟨rfl, hE ▸ HF (M.pk [1])⟩
end Go.Proofs.YtjaocmocdhckaaaGreatDoor
