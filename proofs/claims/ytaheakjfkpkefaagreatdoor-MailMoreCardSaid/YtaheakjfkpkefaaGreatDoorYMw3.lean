/- Lemmas that the last text rests on. Condition: each says its own. -/
import Derived.Test.YtaheakjfkpkefaaGreatDoorYMw2
set_option maxHeartbeats 16000000
set_option maxRecDepth 100000
namespace Go.Proofs.YtaheakjfkpkefaaGreatDoor
open Go.RowKit
open Tryz
def Mo.rest (σ : Mo) (i : Nat) (a : Ar) (x : El) : Mo := ⟨σ.on.eraseIdx i, σ.done ++ [(⟨a.flow, a.order, a.rests, x.id, a.stops⟩ : Ar)], σ.fired ++ [x.id ++ [43]], σ.came⟩
def Mo.puts (σ : Mo) (l : List (List UInt8)) : Mo := l.foldl Mo.put σ
def Mo.sub (σ : Mo) (m : Md) (c : CrA) (i : Nat) (x : El) : Mo := Mo.puts ⟨σ.on.eraseIdx i, σ.done, σ.fired ++ [x.id], σ.came⟩ ((m.els.filter fun y : El => decide ((y.kind.toNat : Int) = (1 : Int)) && decide (y.inn = x.id)).map fun y : El => ((c.outs y.id)[0]?).getD [])
def Mo.end_ (σ : Mo) (c : CrA) (i : Nat) (x : El) : Mo := if x.inn = [] then ⟨σ.on.eraseIdx i, σ.done, σ.fired ++ [x.id], σ.came⟩ else Mo.put ⟨σ.on.eraseIdx i, σ.done, σ.fired ++ [x.id], σ.came⟩ (((c.outs x.inn)[0]?).getD [])
theorem oV {c : CrA} {on dn : List Ar} {fi : List (List UInt8)} {cm i : Nat} {x : El} {q : List UInt8} (h : ¬ x.inn = []) (hq : (c.outs x.inn)[0]? = some q) : (⟨on.eraseIdx i ++ [(⟨q, ((cm + 1 : Nat) : Int), 0, [], false⟩ : Ar)], dn, fi ++ [x.id], cm + 1⟩ : Mo) = Mo.end_ ⟨on, dn, fi, cm⟩ c i x := by
 rw [Mo.end_, if_neg h, hq]; rfl
theorem rV {c : CrA} {on dn : List Ar} {fi : List (List UInt8)} {cm i : Nat} {x : El} (h : x.inn = []) : (⟨on.eraseIdx i, dn, fi ++ [x.id], cm⟩ : Mo) = Mo.end_ ⟨on, dn, fi, cm⟩ c i x := by
 rw [Mo.end_, if_pos h]
theorem Q9 (gc : Nat) (V : Option Addr) (vn vc gx : Nat) (σ : Mo) (F : List Nat) (i : Nat) (a : Ar) (x : El) (w : World) (h1 : σ.on.length ≤ 500000) (h2 : σ.fired.length ≤ 500000) (h3 : σ.came ≤ 500000000) (h4 : σ.done.length ≤ 500000) (ha : σ.on[i]? = some a) (_hx : x.id.length ≤ 100000) (hN : MoN w gc V vn vc gx σ F) :
 Calls prog 150 #[pg gx, AA (i : Int), .agg x.cells.toArray] w fun e w' => e = .returned (.bool true) ∧ XK gc V vn vc gx (σ.rest i a x) F w w' := by
 obtain ⟨on, dn, fi, cm⟩ := σ
 dsimp only at h1 h2 h3 ha
 have hil : i < on.length := (List.getElem?_eq_some_iff.1 ha).1
 dsimp only at h4
 refine sx_enter (vs := [_, _, _]) func150 rfl ntmps150 rfl ?_
 have M : Mem w (fun k => k ∈ F) [As.mo gc V vn vc gx (⟨on, dn, fi, cm⟩ : Mo) F] w := Mem.oneMo hN
 refine srg (DD M rfl rfl fun g5 w1 hg5 M => AG rfl (AC rfl (yb rfl (B2 M 0 rfl rfl rfl (ya rfl (qB rfl rfl rfl CX) (cl 12 rfl (AE rfl rfl call180) (aK gc V vn vc gx (⟨on, dn, fi, cm⟩ : Mo) F (x.id ++ [43]) _ (by first | omega | (simp; omega) | (simp [List.length_eraseIdx]; split <;> omega)) (M.ok 1 _ rfl)) ?_))))))
 rintro _ w2 ⟨rfl, F2, hNw2, hqw2, hfw2⟩
 refine ⟨_, rfl, ?_⟩
 have M := M.updMo 1 rfl (σ' := (⟨on, dn, fi ++ [(x.id ++ [43])], cm⟩ : Mo)) hNw2 hqw2 hfw2
 refine nq (AC rfl (AV rfl rfl ?_))
 have M := M.pk [1, 0]
 obtain ⟨x3, M⟩ := Mem.openMo M
 replace M : Mem w (fun k => k ∈ F) [As.blk gx 137 [pg gc, .slice V vn vc, .slice x3.A on.length x3.a, .slice x3.B dn.length x3.b, .slice x3.C ((fi ++ [(x.id ++ [43])]).length) x3.c, AA (cm : Int)], As.own 0 139 5 (.slice x3.A on.length x3.a) on.length (AB Ar.cells on), As.own 0 139 5 (.slice x3.B dn.length x3.b) dn.length (AB Ar.cells dn), As.own 0 9 1 (.slice x3.C (fi ++ [(x.id ++ [43])]).length x3.c) ((fi ++ [(x.id ++ [43])]).length) (AB BK (fi ++ [(x.id ++ [43])])), As.blk g5 95 (El.cells x)] w2 := M
 refine B2 M 0 rfl rfl rfl (yb rfl ?_)
 obtain ⟨b4_a, o4_a, hA4_a⟩ := B7 (k := 5) A0 (M.rdOwn 1 rfl) ha
 refine ya rfl (AP i hA4_a rfl rfl rfl (sl rfl) A0) (ya rfl (AH rfl rfl (BB Ar.len (M.rdOwn 1 rfl) hA4_a ha) underlying139 rfl CG) (CO M rfl EV fun g7 w3 hg7 M => C2 M 0 rfl rfl CG rfl fun w4 M => nq (AC rfl (B2 M 5 rfl rfl rfl (yb rfl (gp1 M 0 rfl rfl rfl FN fun w5 M => sxl_nil ?_))))))
 refine qx_seq (AC rfl (yb rfl ?_))
 obtain ⟨F6, M⟩ := Mem.closeMo (M.pk [1, 2, 3, 4, 0, 5])
 refine cl 25 rfl (AE rfl rfl call181) (ZE gc V vn vc gx (⟨on, dn, fi ++ [(x.id ++ [43])], cm⟩ : Mo) F6 i _ (by first | omega | (simp; omega) | (simp [List.length_eraseIdx]; split <;> omega)) CX (M.ok 0 _ rfl)) ?_
 rintro _ w6 ⟨rfl, F7, hNw6, hqw6, hfw6⟩
 refine ⟨_, rfl, ?_⟩
 have M := M.updMo 0 rfl (σ' := (⟨on.eraseIdx i, dn, fi ++ [(x.id ++ [43])], cm⟩ : Mo)) hNw6 hqw6 hfw6
 refine nq (sx_seq ?_)
 obtain ⟨x8, M⟩ := Mem.openMo M
 replace M : Mem w (fun k => k ∈ F) [As.blk gx 137 [pg gc, .slice V vn vc, .slice x8.A ((on.eraseIdx i).length) x8.a, .slice x8.B dn.length x8.b, .slice x8.C ((fi ++ [(x.id ++ [43])]).length) x8.c, AA (cm : Int)], As.own 0 139 5 (.slice x8.A (on.eraseIdx i).length x8.a) ((on.eraseIdx i).length) (AB Ar.cells (on.eraseIdx i)), As.own 0 139 5 (.slice x8.B dn.length x8.b) dn.length (AB Ar.cells dn), As.own 0 9 1 (.slice x8.C (fi ++ [(x.id ++ [43])]).length x8.c) ((fi ++ [(x.id ++ [43])]).length) (AB BK (fi ++ [(x.id ++ [43])])), As.blk g7 139 [str a.flow, AA a.order, AA a.rests, str x.id, .bool a.stops], As.blk g5 95 (El.cells x)] w6 := M
 refine EG 8 (fun w' => Mem w (fun k => k ∈ F) [As.blk gx 137 [pg gc, .slice V vn vc, .slice x8.A ((on.eraseIdx i).length) x8.a, .slice x8.B dn.length x8.b, .slice x8.C ((fi ++ [(x.id ++ [43])]).length) x8.c, AA (cm : Int)], As.own 0 139 5 (.slice x8.A (on.eraseIdx i).length x8.a) ((on.eraseIdx i).length) (AB Ar.cells (on.eraseIdx i)), As.own 0 9 1 (.slice x8.C (fi ++ [(x.id ++ [43])]).length x8.c) ((fi ++ [(x.id ++ [43])]).length) (AB BK (fi ++ [(x.id ++ [43])])), As.blk g7 139 [str a.flow, AA a.order, AA a.rests, str x.id, .bool a.stops], As.blk g5 95 (El.cells x)] w') CL ?_
 have M := M.drew
 refine oc 0 8 rfl rfl (M.pk [0, 1, 3, 4, 5]) (oc 1 8 rfl rfl (M.pk [0, 1, 3, 4, 5]) (oc 2 8 rfl rfl (M.pk [0, 1, 3, 4, 5]) (oc 3 8 rfl rfl (M.pk [0, 1, 3, 4, 5]) (ol 4 8 rfl rfl rfl (M.pk [0, 1, 3, 4, 5]) (fun _ M => (M.cell 0 rfl rfl)) (oa 5 8 rfl rfl (M.pk [0, 1, 3, 4, 5]) (fun _ M => AH (xs := [str a.flow, AA a.order, AA a.rests, str x.id, .bool a.stops]) rfl rfl (M.rdBlk 3 rfl rfl) underlying139 rfl CG) (AR 6 (some 32) gkr rfl (wn_none rfl) rfl rfl (fun ρ hρ => CM [.agg #[str a.flow, AA a.order, AA a.rests, str x.id, .bool a.stops]] _ hρ rfl rfl rfl rfl underlying135 HG AU AU (EZ rfl)) ?_))))))
 rintro _ w7 ⟨g32, rfl, hg32, hq32, hb32, hfw7⟩
 replace hb32 : Blk w7 g32 139 ([str a.flow, AA a.order, AA a.rests, str x.id, .bool a.stops]) := hb32
 refine ⟨fun _ => (M.pk [0, 1, 3, 4, 5]).step hfw7, ?_⟩
 have M := M.push hfw7 _ hb32 (DF hg32 hq32)
 replace M : Mem w (fun k => k ∈ F) (As.blk g32 139 ([str a.flow, AA a.order, AA a.rests, str x.id, .bool a.stops]) :: _) w7 := M
 refine AR 7 (some 33) gkr rfl (wn_none rfl) rfl rfl (fun ρ hρ => BV _ _ _ rfl 0 _ _ _ _ underlying135 EB rfl AU _ _ _ (hρ _ _ rfl) (M.own 3 rfl) _ _ _ _ (hρ _ _ rfl) (M.rdBlk 0 rfl rfl) (BG rfl) (by unfold maxLen; first | omega | (simp only [List.length_append, List.length_cons, List.length_nil]; omega)) CX (Nat.zero_le _)) ?_
 rintro v33 w8 ⟨ho33, hgr33, hvb33⟩
 replace ho33 : World.ownsRow w8 0 139 5 v33 ((dn ++ [(⟨a.flow, a.order, a.rests, x.id, a.stops⟩ : Ar)]).length) (AB Ar.cells (dn ++ [(⟨a.flow, a.order, a.rests, x.id, a.stops⟩ : Ar)])) := by rw [show ((dn ++ [(⟨a.flow, a.order, a.rests, x.id, a.stops⟩ : Ar)]).length) = dn.length + 1 from by first | (simp only [List.length_append, List.length_cons, List.length_nil]; omega) | simp only [List.length_append, List.length_cons, List.length_nil], show (AB Ar.cells (dn ++ [(⟨a.flow, a.order, a.rests, x.id, a.stops⟩ : Ar)])) = (AB Ar.cells dn) ++ [str a.flow, AA a.order, AA a.rests, str x.id, .bool a.stops] from by first | exact AT _ _ _ | simp [AB]]; exact ho33
 have M := M.appOwn 3 rfl ho33 hgr33 hvb33
 obtain ⟨A33, c33, rfl, _⟩ := CC ho33
 refine ⟨fun _ => (M.pk [1, 2, 4, 5, 6]), fo1 8 rfl rfl (yp rfl) (fo1 9 rfl rfl (yp rfl) (AR 10 none gkr rfl (wn_none rfl) rfl rfl (fun ρ hρ => CQ 135 _ _ rfl gx 3 137 _ (.slice A33 ((dn ++ [(⟨a.flow, a.order, a.rests, x.id, a.stops⟩ : Ar)]).length) c33) (hρ _ _ rfl) (hρ _ _ rfl) rfl (M.blk 1 rfl) ER (BR rfl) rfl) ?_))⟩
 rintro _ w9 ⟨rfl, hbw9, hfw9⟩
 replace M : Mem w (fun k => k ∈ F) (List.set _ 1 (As.blk gx 137 [pg gc, .slice V vn vc, .slice x8.A ((on.eraseIdx i).length) x8.a, .slice A33 ((dn ++ [(⟨a.flow, a.order, a.rests, x.id, a.stops⟩ : Ar)]).length) c33, .slice x8.C ((fi ++ [(x.id ++ [43])]).length) x8.c, AA (cm : Int)])) w9 := M.putB 1 rfl hbw9 hfw9
 refine ⟨fun h => absurd h AU, fdn (qx_seq (AC rfl (gnr (gr1 rfl ?_))))⟩
 obtain ⟨F10, M⟩ := Mem.closeMo (M.pk [1, 2, 3, 4, 0, 5, 6])
 exact ⟨rfl, L7 (M.pk [0])⟩
theorem rW (we : World) (m : Md) (gc : Nat) (c : CrA) (Fc : List Nat) (V : Option Addr) (vn vc gx : Nat) (σ : Mo) (F : List Nat) (i : Nat) (a : Ar) (x : El) (w : World) (h1 : σ.on.length ≤ 500000) (h2 : σ.fired.length ≤ 500000) (h3 : σ.came ≤ 500000000) (ha : σ.on[i]? = some a) (_hx : x.id.length ≤ 100000) (hne : ¬ x.inn = [] → 0 < (c.outs x.inn).length) (hC : CourseN we m gc c Fc) (hwe : Fr0 we w) (hFe : ∀ g ∈ F, we.heap.size ≤ g) (hN : MoN w gc V vn vc gx σ F) :
 Calls prog 152 #[pg gx, AA (i : Int), .agg x.cells.toArray] w fun e w' => e = .returned (.bool true) ∧ XK gc V vn vc gx (σ.end_ c i x) F w w' := by
 obtain ⟨on, dn, fi, cm⟩ := σ
 dsimp only at h1 h2 h3 ha
 have hil : i < on.length := (List.getElem?_eq_some_iff.1 ha).1
 refine sx_enter (vs := [_, _, _]) func152 rfl ntmps152 rfl ?_
 have M : Mem w (fun k => k ∈ F) [As.mo gc V vn vc gx (⟨on, dn, fi, cm⟩ : Mo) F] w := Mem.oneMo hN
 refine srg (DD M rfl rfl fun g5 w1 hg5 M => AG rfl (AC rfl (yb rfl (B2 M 0 rfl rfl rfl (cl 10 rfl (AE rfl rfl call180) (aK gc V vn vc gx (⟨on, dn, fi, cm⟩ : Mo) F x.id _ (by first | omega | (simp; omega) | (simp [List.length_eraseIdx]; split <;> omega)) (M.ok 1 _ rfl)) ?_)))))
 rintro _ w2 ⟨rfl, F2, hNw2, hqw2, hfw2⟩
 refine ⟨_, rfl, ?_⟩
 have M := M.updMo 1 rfl (σ' := (⟨on, dn, fi ++ [x.id], cm⟩ : Mo)) hNw2 hqw2 hfw2
 refine nq (AC rfl (yb rfl (cl 13 rfl (AE rfl rfl call181) (ZE gc V vn vc gx (⟨on, dn, fi ++ [x.id], cm⟩ : Mo) F2 i _ (by first | omega | (simp; omega) | (simp [List.length_eraseIdx]; split <;> omega)) CX (M.ok 1 _ rfl)) ?_)))
 rintro _ w3 ⟨rfl, F3, hNw3, hqw3, hfw3⟩
 refine ⟨_, rfl, ?_⟩
 have M := M.updMo 1 rfl (σ' := (⟨on.eraseIdx i, dn, fi ++ [x.id], cm⟩ : Mo)) hNw3 hqw3 hfw3
 refine nq (sx_seq (AC rfl (B2 M 0 rfl rfl rfl (ya rfl (FV rfl rfl rfl) (nq (AF rfl (fun h16 => ?_) (fun h16 => ?_)))))))
 ·have h16p := (odf (BY h16))
  have hpos := hne h16p
  have M := M.pk [1, 0]
  obtain ⟨x4, M⟩ := Mem.openMo M
  replace M : Mem w (fun k => k ∈ F) [As.blk gx 137 [pg gc, .slice V vn vc, .slice x4.A ((on.eraseIdx i).length) x4.a, .slice x4.B dn.length x4.b, .slice x4.C ((fi ++ [x.id]).length) x4.c, AA (cm : Int)], As.own 0 139 5 (.slice x4.A (on.eraseIdx i).length x4.a) ((on.eraseIdx i).length) (AB Ar.cells (on.eraseIdx i)), As.own 0 139 5 (.slice x4.B dn.length x4.b) dn.length (AB Ar.cells dn), As.own 0 9 1 (.slice x4.C (fi ++ [x.id]).length x4.c) ((fi ++ [x.id]).length) (AB BK (fi ++ [x.id])), As.blk g5 95 (El.cells x)] w3 := M
  refine DL 13 CL gkr ?_
  have M := M.drew
  iterate 4 refine sb rfl ?_
  refine GZ M 0 rfl rfl rfl (sb rfl (sb rfl (sa rfl (B9 rfl rfl (sc rfl) (Blk.c ((hC.fr0 (D4 hwe M.fr hFe)).blk) 8 rfl)) (sb rfl (GZ M 4 rfl rfl rfl (sa rfl (BD rfl rfl rfl underlying87 underlying9 EO ((hC.fr0 (D4 hwe M.fr hFe)).O) (hC.getO _)) ?_))))))
  obtain ⟨q, hq⟩ := BZ (l := (c.outs x.inn)) (i := 0) A0
  obtain ⟨b_q, o_q, hA_q⟩ := B7 (k := 1) A0 ((hC.fr0 (D4 hwe M.fr hFe)).rdO _) hq
  refine sa rfl (AP 0 hA_q rfl rfl rfl (sl rfl) A0) (sa rfl (B9 rfl rfl (sc rfl) (E5 FD ((hC.fr0 (D4 hwe M.fr hFe)).rdO _) hA_q hq 0 rfl)) (CB ?_))
  obtain ⟨F6, M⟩ := Mem.closeMo (M.pk [0, 1, 2, 3, 4])
  refine cl 30 rfl (AE rfl rfl call53) (iF gc V vn vc gx (⟨on.eraseIdx i, dn, fi ++ [x.id], cm⟩ : Mo) F6 q _ (by first | omega | (simp; omega) | (simp [List.length_eraseIdx]; split <;> omega)) (by first | omega | (simp; omega) | (simp [List.length_eraseIdx]; split <;> omega)) (M.ok 0 _ rfl)) ?_
  rintro _ w4 ⟨rfl, F7, hNw4, hqw4, hfw4⟩
  refine ⟨_, rfl, ?_⟩
  have M := M.updMo 0 rfl (σ' := (⟨on.eraseIdx i ++ [(⟨q, ((cm + 1 : Nat) : Int), 0, [], false⟩ : Ar)], dn, fi ++ [x.id], cm + 1⟩ : Mo)) hNw4 hqw4 hfw4
  refine nq (AC rfl (gnr (gr1 rfl ?_)))
  have hE := oV (dn := dn) (fi := fi) (cm := cm) (on := on) (i := i) h16p hq
  exact ⟨rfl, hE ▸ L7 (M.pk [0])⟩
 ·have h16p := (odt (BJ h16))
  refine sx_skip (qx_seq (AC rfl (gnr (gr1 rfl ?_))))
  have hE := rV (c := c) (dn := dn) (fi := fi) (cm := cm) (on := on) (i := i) h16p
  exact ⟨rfl, hE ▸ L7 (M.pk [1])⟩
end Go.Proofs.YtaheakjfkpkefaaGreatDoor
