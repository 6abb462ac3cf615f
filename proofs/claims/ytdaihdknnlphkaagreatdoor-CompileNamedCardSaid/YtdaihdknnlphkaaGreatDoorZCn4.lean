/- Lemmas that the last text rests on. Condition: each says its own. -/
import Derived.Test.YtdaihdknnlphkaaGreatDoorZCn3
set_option maxHeartbeats 16000000
set_option maxRecDepth 100000
namespace Go.Proofs.YtdaihdknnlphkaaGreatDoor
open Go.RowKit
open Tryz
theorem MkN.blk {w : World} {m : Md} {a : MdA} {gx : Nat} {fin : Int} {pl : List (List UInt8)} {ts : List Tr1} {F : List Nat} (h : MkN w m a gx fin pl ts F) : ∃ cs, Blk w gx 55 (Md.cells m a ++ cs) := by
 obtain ⟨_, _, x, rfl, _, _, M⟩ := h
 exact ⟨_, M.blk 0 rfl⟩
theorem PC (id : List UInt8) : ∀ (l : List El) (i : Nat), ffN (fun (_ : Nat) (x : El) => !(decide ((x.kind.toNat : Int) = (1 : Int)) && decide (x.inn = id))) i l = BZ l id
 | [], _ => rfl
 | x :: r, i => by
  rw [ffN, BZ, PC id r]
  cases hc : (decide ((x.kind.toNat : Int) = (1 : Int)) && decide (x.inn = id)) with
  | true => rfl
  | false => rfl
theorem lF {l : List El} {id : List UInt8} (hs : (BZ l id).isSome = true) : ∃ j x, ixJ (fun (_ : Nat) (x : El) => !(!(decide ((x.kind.toNat : Int) = (1 : Int)) && decide (x.inn = id)))) 0 l = ((j : Nat) : Int) ∧ l[j]? = some x ∧ (BZ l id).getD zeroEl = x := by
 rcases QW (fun (_ : Nat) (x : El) => !(decide ((x.kind.toNat : Int) = (1 : Int)) && decide (x.inn = id))) l 0 with ⟨_, h2⟩ | ⟨j, x, h1, h2, h3⟩
 ·rw [PC] at h2; rw [h2] at hs; cases hs
 ·rw [PC] at h3
  exact ⟨j, x, by rw [h1, Nat.zero_add], h2, by rw [h3]; rfl⟩
theorem LT (m : Md) (k : List UInt8) : (CJ m k).length ≤ m.fls.length := by unfold CJ; rw [List.length_map]; exact AQ _ _
section
variable {p : El → Bool} {f : El → Tr0} {g : Tr0 → Tr1} {l l' : List El} {u : El} {ts ts1 : List Tr1} (h : ts1 = ts ++ ((l.filter p).map f).map g) (hl : l' = l ++ [u])
include h hl
theorem IT (hp : p u = true) : ts1 ++ [g (f u)] = ts ++ ((l'.filter p).map f).map g := by rw [hl, h, List.filter_append, List.map_append, List.map_append, List.append_assoc]; simp [hp]
theorem KJ (hp : p u = false) : ts1 = ts ++ ((l'.filter p).map f).map g := by rw [hl, h, List.filter_append, List.map_append, List.map_append]; simp [hp]
end
theorem gJ (g3 : Nat) (id : List UInt8) (x : El) (w : World) (hb : Blk w g3 9 [str id]) :
 Calls prog 95 #[.agg x.cells.toArray, pg g3] w fun e w' => e = .returned (.bool (decide ((x.kind.toNat : Int) = (1 : Int)) && decide (x.inn = id))) ∧ Fr0 w w' := by
 refine AJ (vs := [_, _]) func95 rfl ntmps95 rfl ?_
 have M := CN w
 refine A9 (A0 (B4 M (AA rfl) rfl rfl 39 rfl rfl (El.cells x) rfl fun g2 w1 hg2 M => yb rfl (A4 (A5 (A9 (A0 (yb rfl (yl rfl rfl (M.cell 0 rfl rfl) (ya rfl (BB rfl rfl rfl) (yb rfl (AX 5 [(3, .bool false), (12, .bool ((decide ((x.kind.toNat : Int) = (1 : Int))) && (decide (x.inn = id))))] (fun w' => Mem w AD [As.blk g2 39 (El.cells x)] w') ?_ (fun k7 => ?_))))))))))))
 ·intro w2 M
  exact yb rfl (A4 (A5 (AF (AK rfl rfl ⟨rfl, M.fr⟩))))
 refine AM (d := 7) (b := (decide ((x.kind.toNat : Int) = (1 : Int)))) rfl (fun h7 => ?_) (fun h7 => ?_)
 ·exact yd rfl (yp rfl) (ym rfl rfl (M.cell 0 rfl rfl) (ym rfl rfl (Blk.c (hb.fr0 M.fr) 0 rfl) (yd rfl (DE rfl rfl rfl) (yb rfl (k7 _ _ M ⟨rfl, (by rw [h7]; rfl), trivial⟩)))))
 ·iterate 4 refine yo rfl ?_
  exact yb rfl (k7 _ _ M ⟨rfl, (by rw [h7]; rfl), trivial⟩)
theorem lE (we : World) (m : Md) (a : MdA) (gx : Nat) (cs : List Value) (id : List UInt8) (w : World) (ho : MdOk m) (hM : MdIn we m a) (hwe : Fr0 we w) (hb_ : Blk w gx 55 (Md.cells m a ++ cs)) (hs : (BZ m.els id).isSome = true) :
 Calls prog 44 #[pg gx, str id] w fun e w' => ∃ A c, e = .returned (.slice A (CJ m ((BZ m.els id).getD zeroEl).id).length c) ∧ w'.ownsRow w.heap.size 9 1 (.slice A (CJ m ((BZ m.els id).getD zeroEl).id).length c) (CJ m ((BZ m.els id).getD zeroEl).id).length (AS D7 (CJ m ((BZ m.els id).getD zeroEl).id)) ∧ Fr0 w w' := by
 have hne := ho.nels
 have hnf := ho.nfls
 refine AJ (vs := [_, _]) func44 rfl ntmps44 rfl ?_
 have M := CN w
 refine A9 (A0 (B4 M (AA rfl) rfl rfl 9 rfl rfl ([str id]) rfl fun g3 w1 hg3 M => yb rfl (A4 (A5 (A9 (A0 ?_))))))
 iterate 4 refine yb rfl ?_
 refine yl rfl rfl (Blk.c ((hb_.fr0 M.fr)) 3 rfl) (ya rfl (CC (us := []) (vs := [pg g3]) rfl rfl rfl) (cl 12 rfl (AE rfl rfl call32) (QZ El.cells El.len a.E a.ec m.els (by omega) 95 [pg g3] (fun (_ : Nat) (x : El) => !(!(decide ((x.kind.toNat : Int) = (1 : Int)) && decide (x.inn = id)))) AD (fun _ _ => True) _ (GO call95 (fun x _ w9 hf9 => (gJ g3 id x w9 ((M.blk 0 rfl).fr0 hf9)).mono fun _ _ ⟨h1, h2⟩ => ⟨by rw [h1, Bool.not_not], h2⟩)) (fun _ hf9 => (hM.fr0 (Fr.then0 hwe M.fr)).els.fr0 hf9) trivial) ?_))
 rintro _ w2 ⟨rfl, _, hfw2⟩
 refine ⟨_, rfl, ?_⟩
 have M := M.step hfw2
 obtain ⟨j, x, hj, hx, hst⟩ := lF hs
 have hjl : j < m.els.length := (List.getElem?_eq_some_iff.1 hx).1
 rw [hj]
 obtain ⟨b_x, o_x, hA_x⟩ := C7 (k := 11) (by omega) ((hM.fr0 (Fr.then0 hwe M.fr)).els) hx
 refine yb rfl (A4 (A5 (A9 (GC 13 DV (by kernel_rfl) ?_))))
 have M := M.drew
 refine sb rfl (sb rfl (sb rfl (sa rfl (AU (xs := [str m.id, str m.nm, .slice a.V m.vars.length a.vc, .slice a.E m.els.length a.ec, .slice a.F m.fls.length a.fc]) rfl rfl (II ((hb_.fr0 M.fr)) 0 5 rfl rfl) underlying26 rfl BC) ?_)))
 iterate 4 refine sb rfl ?_
 refine sd rfl rfl (Blk.c ((hb_.fr0 M.fr)) 3 rfl) (sb rfl (sa rfl (BM j hA_x rfl rfl rfl (sl rfl) (by omega)) (sb rfl (sa rfl (C0 rfl rfl (sc rfl) (EB El.len ((hM.fr0 (Fr.then0 hwe M.fr)).els) hA_x hx 0 rfl)) (E9 (cl 26 rfl (AE rfl rfl call19) (S0 m a x.id _ ho (hM.fr0 (Fr.then0 hwe M.fr))) ?_))))))
 rintro _ w3 ⟨A26, c26, rfl, how3, hfw3⟩
 refine ⟨_, rfl, ?_⟩
 have M := M.pushOwn hfw3 (Nat.le_refl _) how3
 have hL26 := M.ownLen 0 rfl
 refine yb rfl (A4 (A5 (AF (AK rfl rfl ?_))))
 rw [hst]
 exact ⟨_, _, rfl, M.own 0 rfl, M.fr⟩
theorem sJ (we : World) (m : Md) (a : MdA) (gx g3 : Nat) (fin : Int) (pl : List (List UInt8)) (ts : List Tr1) (F : List Nat) (y : El) (l1 l2 : List (List UInt8)) (A B : Option Addr) (cA cB : Nat)  (w : World) (ho : MdOk m) (hi : Ids m) (hy : y ∈ m.els) (hM : MdIn we m a) (hwe : Fr0 we w) (hFe : ∀ g ∈ F, we.heap.size ≤ g) (h3 : Blk w g3 52 [pg gx]) (hn3 : g3 ∉ F) (hts : ts.length ≤ 90000000) (hN : MkN w m a gx fin pl ts F) (hs1 : ∀ s ∈ l1, s.length ≤ 32) (hs2 : ∀ s ∈ l2, s.length ≤ 32) (hl1 : l1.length ≤ 400) (hl2 : l2.length ≤ 400) (hA : Rd w A (l1.length * 1) (AS D7 l1)) (hB : Rd w B (l2.length * 1) (AS D7 l2)) (hnA : ∀ b off p, A = some ⟨b, off, p⟩ → b ∉ F ∧ b < w.heap.size) (hnB : ∀ b off p, B = some ⟨b, off, p⟩ → b ∉ F ∧ b < w.heap.size) (hst : (BZ m.els y.id).isSome = true) :
 Calls prog 43 #[.agg y.cells.toArray, .slice A l1.length cA, .slice B l2.length cB, pg g3] w fun e w' => e = .returned (.tuple #[]) ∧ ME m a gx fin pl (ts ++ (([⟨y.id, l1, CJ m ((BZ m.els y.id).getD zeroEl).id⟩] : List Tr0)).map (trP pl)) F w w' := by
 have hF0 : ∀ g ∈ F, g ∈ F ∨ w.heap.size ≤ g := fun _ h => .inl h
 have hnf := ho.nfls
 have hne := ho.nels
 have hyi := E0 (hi.els y hy)
 have _u := And.intro hM (And.intro hwe (And.intro hFe (And.intro hs1 (And.intro hs2 (And.intro hl1 (And.intro hl2 (And.intro hA (And.intro hB (And.intro hnA hnB)))))))))
 have hol := LT m ((BZ m.els y.id).getD zeroEl).id
 refine AJ (vs := [_, _, _, _]) func43 rfl ntmps43 rfl ?_
 have M : Mem w (fun k => k ∈ F) [As.mk_ m a gx fin pl ts F] w := Mem.oneMk hN
 refine A9 (A0 (B4 M (AA rfl) rfl rfl 39 rfl rfl (El.cells y) rfl fun g4 w1 hg4 M => A4 (A5 (DB 9 (fun w' => Mem w (fun k => k ∈ F) [As.blk g4 39 (El.cells y)] w') DV ?_))))
 have M := M.drew
 refine ol 0 9 rfl rfl rfl (M.pk [0]) (fun _ M => (Blk.c ((h3.fr M.fr hn3)) 0 rfl)) (oc 1 9 rfl rfl (M.pk [0]) (ol 2 9 rfl rfl rfl (M.pk [0]) (fun _ M => (M.cell 0 rfl rfl)) (oc 3 9 rfl rfl (M.pk [0]) (ol 4 9 rfl rfl rfl (M.pk [0]) (fun _ M => (Blk.c ((h3.fr M.fr hn3)) 0 rfl)) (oc 5 9 rfl rfl (M.pk [0]) (ol 6 9 rfl rfl rfl (M.pk [0]) (fun _ M => (M.cell 0 rfl rfl)) ?_))))))
 obtain ⟨cs14, hcs14⟩ := MkN.blk (M.ok 1 _ rfl)
 refine BY 7 (some 14) (by kernel_rfl) rfl (AA rfl) rfl rfl (AE rfl rfl call44) (lE we m a gx cs14 y.id _ ho hM (D9 hwe M.fr hFe) hcs14 hst) ?_
 rintro _ w2 ⟨A14, c14, rfl, how2, hfw2⟩
 refine ⟨_, rfl, fun _ => (M.pk [0]).step hfw2, ?_⟩
 have M := M.pushOwn hfw2 (Nat.le_refl _) how2
 refine BY 8 (some 15) (by kernel_rfl) rfl (AA rfl) rfl rfl (AE rfl rfl call36) (HB m a gx fin pl ts F y.id l1 (CJ m ((BZ m.els y.id).getD zeroEl).id) A A14 cA c14 _ (by first | omega | (simp <;> omega)) (by first | omega | exact AI rfl | (have := BS m.fls y.id; have := AQ m.fls y.id; have := ho.nfls; first | omega | (simp only [List.length_map]; first | omega | (have := AQ m.fls y.inn; omega) | (have := AQ m.fls ((BZ m.els y.id).getD zeroEl).id; omega)))) (by first | omega | exact AI rfl | (have := BS m.fls y.id; have := AQ m.fls y.id; have := ho.nfls; first | omega | (simp only [List.length_map]; first | omega | (have := AQ m.fls y.inn; omega) | (have := AQ m.fls ((BZ m.els y.id).getD zeroEl).id; omega)))) ((DW hA M.fr fun b off p e => (hnA b off p e).1)) (M.rdOwn 0 rfl) (nin hnA hF0) (M.notMk 0 2 rfl rfl (by decide) OL) (M.ok 2 _ rfl)) ?_
 rintro _ w3 ⟨rfl, F15, hNw3, hqw3, hfw3⟩
 have hFw3 : ∀ g ∈ F15, g ∈ F ∨ w.heap.size ≤ g := fun g hg => (hqw3 g hg).elim (hF0 g) (fun h => .inr (Nat.le_trans M.fr.size h.1))
 have M := M.updMk 2 rfl hNw3 hqw3 hfw3
 refine ⟨_, rfl, fun _ => (M.pk [1]), ?_⟩
 exact BN (by kernel_rfl) (C3 (Or.inr rfl) rfl ⟨rfl, GU (M.ok 2 _ rfl) hFw3 M.fr (by simp)⟩)
theorem jX (we : World) (m : Md) (a : MdA) (gx : Nat) (fin : Int) (pl : List (List UInt8)) (ts : List Tr1) (F : List Nat) (y : El) (l2 : List (List UInt8)) (B : Option Addr) (cB : Nat) (w : World) (ho : MdOk m) (hi : Ids m) (hy : y ∈ m.els) (hM : MdIn we m a) (hwe : Fr0 we w) (hFe : ∀ g ∈ F, we.heap.size ≤ g) (hts : ts.length ≤ 90000000) (hN : MkN w m a gx fin pl ts F) (hl2 : l2.length ≤ 400) (hB : Rd w B (l2.length * 1) (AS D7 l2)) (hnB : ∀ b off p, B = some ⟨b, off, p⟩ → b ∉ F ∧ b < w.heap.size) :
 Calls prog 46 #[pg gx, .agg y.cells.toArray, .slice B l2.length cB] w fun e w' => e = .returned (.tuple #[]) ∧ ME m a gx fin pl (ts ++ ((m.els.filter (EN m y)).map (fun u : El => (⟨y.id ++ [32] ++ u.id, [u.id], l2⟩ : Tr0))).map (trP pl)) F w w' := by
 have hF0 : ∀ g ∈ F, g ∈ F ∨ w.heap.size ≤ g := fun _ h => .inl h
 have hnf := ho.nfls
 have hne := ho.nels
 have hyi := E0 (hi.els y hy)
 refine AJ (vs := [_, _, _]) func46 rfl ntmps46 rfl ?_
 have M : Mem w (fun k => k ∈ F) [As.mk_ m a gx fin pl ts F] w := Mem.oneMk hN
 refine A9 (A0 (B4 M (AA rfl) rfl rfl 39 rfl rfl (El.cells y) rfl fun g4 w1 hg4 M => A4 (A5 (A9 (A0 ?_)))))
 iterate 4 refine yb rfl ?_
 refine yl rfl rfl (MkN.cell (M.ok 1 _ rfl) 3 rfl) (ya rfl (CS rfl rfl (sl rfl)) (yb rfl (A4 (A5 (AV (CL (fun e wr mz => ∃ (i : Nat) (ts1 : List Tr1) (F1 : List Nat), e = [(0, pg gx), (2, .slice B l2.length cB), (4, pg g4), (12, .slice a.E m.els.length a.ec), (13, .int .i64 ((m.els.length : Nat) : Int)), (14, .int .i64 ((i : Nat) : Int))] ∧ Mem w (fun k => k ∈ F) [As.blk g4 39 (El.cells y), As.mk_ m a gx fin pl ts1 F1] wr ∧ (i ≤ m.els.length) ∧ (ts1 = ts ++ (((m.els.take i).filter (EN m y)).map (fun u : El => (⟨y.id ++ [32] ++ u.id, [u.id], l2⟩ : Tr0))).map (trP pl)) ∧ (∀ g ∈ F1, g ∈ F ∨ w.heap.size ≤ g) ∧ (ts1.length ≤ 90000000 + i) ∧ mz = m.els.length - i) ⟨0, ts, F, rfl, M, Nat.zero_le _, by simp, hF0, by omega, rfl⟩ ⟨rfl, rfl, rfl, rfl, rfl, rfl, trivial⟩ ?_))))))
 rintro _ w2 _ ⟨i, ts1, F1, rfl, M, hi1, hE1, hF1, hB1, rfl⟩
 refine A9 (A0 (ya rfl (CB rfl rfl rfl) (A4 (A5 (A9 (AT (b := (decide (((i : Nat) : Int) < ((m.els.length : Nat) : Int)))) rfl (fun h15 => ?_) (fun h15 => ?_)))))))
 ·have h15p := (odt h15)
  refine AN (A5 (A9 (AV (A9 (A0 ?_)))))
  obtain ⟨u, hu⟩ := DA (l := m.els) (i := i) (by omega)
  obtain ⟨b_u, o_u, hA_u⟩ := C7 (k := 11) (by omega) ((hM.fr0 (D9 hwe M.fr hFe)).els) hu
  have hul := E0 (hi.els u (List.mem_of_getElem? hu))
  refine ya rfl (BM i hA_u rfl rfl rfl (sl rfl) (by omega)) (ya rfl (AU rfl rfl (DD El.len ((hM.fr0 (D9 hwe M.fr hFe)).els) hA_u hu) underlying39 rfl AP) (BI M (AA rfl) rfl rfl 39 rfl [str [], str [], .int .u8 0, str [], str [], str [], .int .u8 0, str [], str [], .int .i64 0, .int .i64 0] B7 rfl fun g7 w3 hg7 M => B8 (cs' := (El.cells u)) M 0 (AA rfl) rfl rfl rfl rfl rfl AP rfl (AI rfl) (AY rfl) rfl fun w4 M => A4 (A5 (A9 (DB 30 (fun w' => Mem w (fun k => k ∈ F) [As.blk g7 39 (El.cells u), As.blk g4 39 (El.cells y), As.mk_ m a gx fin pl ts1 F1] w') DV ?_)))))
  have M := M.drew
  refine oc 0 30 rfl rfl M (ol 1 30 rfl rfl rfl M (fun _ M => (M.cell 0 rfl rfl)) (oc 2 30 rfl rfl M (ol 3 30 rfl rfl rfl M (fun _ M => (M.cell 1 rfl rfl)) (oa 4 30 rfl rfl M (fun _ M => DE rfl rfl rfl) (oc 5 30 rfl rfl M (EO (d := 23) (b := (decide (u.id = y.att))) rfl (fun h23 => ?_) (fun h23 => ?_)))))))
  ·have h23p := (odt h23)
   refine ob 6 30 rfl (AW rfl rfl rfl) rfl rfl M (fun _ M => yp rfl) (ob 7 30 rfl (AW rfl rfl rfl) rfl rfl M (fun _ M => C0 rfl rfl (sc rfl) (M.cell 0 rfl rfl)) (ob 8 30 rfl (AW rfl rfl rfl) rfl rfl M (fun _ M => CX rfl rfl rfl) (oc 9 30 rfl rfl M (oc 10 30 rfl rfl M (EO (d := 28) (b := (!decide ((u.kind.toNat : Int) = (10 : Int)))) rfl (fun h28 => ?_) (fun h28 => ?_))))))
   ·have h28p := (odf (C4 h28))
    refine oo1 11 30 rfl rfl rfl rfl rfl rfl rfl M (oo1 12 30 rfl rfl rfl rfl rfl rfl rfl M (oo1 13 30 rfl rfl rfl rfl rfl rfl rfl M (oo1 14 30 rfl rfl rfl rfl rfl rfl rfl M (oo1 15 30 rfl rfl rfl rfl rfl rfl rfl M (oo1 16 30 rfl rfl rfl rfl rfl rfl rfl M (oo1 17 30 rfl rfl rfl rfl rfl rfl rfl M (D4 18 30 (by kernel_rfl) (fun c a t v w h => by cases t <;> exact h) (by kernel_rfl) rfl (by kernel_rfl) (by kernel_rfl) rfl rfl rfl rfl rfl rfl M (D4 19 30 (by kernel_rfl) (fun c a t v w h => by cases t <;> exact h) (by kernel_rfl) rfl (by kernel_rfl) (by kernel_rfl) rfl rfl rfl rfl rfl rfl M (D4 20 30 (by kernel_rfl) (fun c a t v w h => by cases t <;> exact h) (by kernel_rfl) rfl (by kernel_rfl) (by kernel_rfl) rfl rfl rfl rfl rfl rfl M (D4 21 30 (by kernel_rfl) (fun c a t v w h => by cases t <;> exact h) (by kernel_rfl) rfl (by kernel_rfl) (by kernel_rfl) rfl rfl rfl rfl rfl rfl M (D4 22 30 (by kernel_rfl) (fun c a t v w h => by cases t <;> exact h) (by kernel_rfl) rfl (by kernel_rfl) (by kernel_rfl) rfl rfl rfl rfl rfl rfl M (D4 23 30 (by kernel_rfl) (fun c a t v w h => by cases t <;> exact h) (by kernel_rfl) rfl (by kernel_rfl) (by kernel_rfl) rfl rfl rfl rfl rfl rfl M (D4 24 30 (by kernel_rfl) (fun c a t v w h => by cases t <;> exact h) (by kernel_rfl) rfl (by kernel_rfl) (by kernel_rfl) rfl rfl rfl rfl rfl rfl M (D4 25 30 (by kernel_rfl) (fun c a t v w h => by cases t <;> exact h) (by kernel_rfl) rfl (by kernel_rfl) (by kernel_rfl) rfl rfl rfl rfl rfl rfl M (D4 26 30 (by kernel_rfl) (fun c a t v w h => by cases t <;> exact h) (by kernel_rfl) rfl (by kernel_rfl) (by kernel_rfl) rfl rfl rfl rfl rfl rfl M ?_)))))))))))))))
    refine D4 27 30 (by kernel_rfl) (fun c a t v w h => by cases t <;> exact h) (by kernel_rfl) rfl (by kernel_rfl) (by kernel_rfl) rfl rfl rfl rfl rfl rfl M (oo1 28 30 rfl rfl rfl rfl rfl rfl rfl M (oc 29 30 rfl rfl M (BN (by kernel_rfl) (A5 (DI rfl (A0 (yb rfl (yb rfl (yl rfl rfl (M.cell 1 rfl rfl) (ya rfl (FE rfl rfl rfl (by first | omega | (simp only [List.length_cons, List.length_nil]; omega) | (simp only [List.length_append, List.length_cons, List.length_nil]; omega))) (yb rfl (yl rfl rfl (M.cell 0 rfl rfl) (ya rfl (FE rfl rfl rfl (by first | omega | (simp only [List.length_cons, List.length_nil]; omega) | (simp only [List.length_append, List.length_cons, List.length_nil]; omega))) (yb rfl (yl rfl rfl (M.cell 0 rfl rfl) ?_)))))))))))))))
    refine DC M (AA rfl) rfl rfl [str u.id] ([str u.id]) rfl rfl rfl rfl underlying29 CR rfl rfl (IK rfl) rfl fun g57 w5 hg57 M => yb rfl (cl 59 rfl (AE rfl rfl call36) (HB m a gx fin pl ts1 F1 ((y.id ++ [32]) ++ u.id) [u.id] l2 (some ⟨g57, 0, none⟩) B 1 cB _ (by first | omega | (simp <;> omega)) (by first | omega | exact AI rfl | (have := BS m.fls y.id; have := AQ m.fls y.id; have := ho.nfls; first | omega | (simp only [List.length_map]; first | omega | (have := AQ m.fls y.inn; omega) | (have := AQ m.fls ((BZ m.els y.id).getD zeroEl).id; omega)))) (by first | omega | exact AI rfl | (have := BS m.fls y.id; have := AQ m.fls y.id; have := ho.nfls; first | omega | (simp only [List.length_map]; first | omega | (have := AQ m.fls y.inn; omega) | (have := AQ m.fls ((BZ m.els y.id).getD zeroEl).id; omega)))) (M.rdBlk 0 rfl rfl) ((DW hB M.fr fun b off p e => (hnB b off p e).1)) (M.notMk 0 3 rfl rfl (by decide) IU) (nin hnB hF1) (M.ok 3 _ rfl)) ?_)
    rintro _ w6 ⟨rfl, F59, hNw6, hqw6, hfw6⟩
    refine ⟨_, rfl, ?_⟩
    have hFw6 : ∀ g ∈ F59, g ∈ F ∨ w.heap.size ≤ g := fun g hg => (hqw6 g hg).elim (hF1 g) (fun h => .inr (Nat.le_trans M.fr.size h.1))
    have M := M.updMk 3 rfl hNw6 hqw6 hfw6
    refine A4 (AC (A5 (A0 (ya rfl (CI rfl rfl rfl (by omega)) (yb rfl (A4 (BF [(0, pg gx), (2, .slice B l2.length cB), (4, pg g4), (12, .slice a.E m.els.length a.ec), (13, .int .i64 ((m.els.length : Nat) : Int)), (14, .int .i64 (((i + 1) : Nat) : Int))] (m.els.length - (i + 1)) ⟨i + 1, ts1 ++ [trP pl ⟨((y.id ++ [32]) ++ u.id), [u.id], l2⟩], F59, rfl, (M.pk [2, 3]), ?_, ?_, ?_, ?_, rfl⟩ (by first | omega | (simp <;> omega)) ⟨rfl, rfl, rfl, rfl, rfl, rfl, trivial⟩)))))))
    ·omega
    ·first
      | exact IT hE1 (B3 hu) (by unfold EN; first | (simp [*]; done) | simp_all)
      | exact KJ hE1 (B3 hu) (by unfold EN; first | (simp [*]; done) | simp_all)
    ·assumption
    ·first | omega | (simp only [List.length_append, List.length_cons, List.length_nil]; omega)
   ·have h28p := (odt (C5 h28))
    refine ob 11 30 rfl (AW rfl rfl rfl) rfl rfl M (fun _ M => yp rfl) (ob 12 30 rfl (AW rfl rfl rfl) rfl rfl M (fun _ M => yp rfl) (ob 13 30 rfl (AW rfl rfl rfl) rfl rfl M (fun _ M => yp rfl) (ob 14 30 rfl (AW rfl rfl rfl) rfl rfl M (fun _ M => AU (xs := Md.cells m a) rfl rfl (MkN.rdm (M.ok 2 _ rfl)) underlying26 rfl BC) (ob 15 30 rfl (AW rfl rfl rfl) rfl rfl M (fun _ M => AU (xs := El.cells u) rfl rfl (M.rdBlk 0 rfl rfl) underlying39 rfl AP) (BY 16 (some 34) (by kernel_rfl) rfl (AW rfl rfl rfl) rfl rfl (AE rfl rfl call16) (R7 m a u _ ho (hM.fr0 (D9 hwe M.fr hFe))) ?_)))))
    rintro _ w7 ⟨rfl, hfw7⟩
    refine ⟨_, rfl, fun _ => M.step hfw7, ?_⟩
    have M := M.step hfw7
    refine ob 17 30 rfl (AW rfl rfl rfl) rfl rfl M (fun _ M => yp rfl) (EO (d := 35) (b := (FP m u)) rfl (fun h35 => ?_) (fun h35 => ?_))
    ·refine ob 18 30 rfl (AW rfl rfl rfl) rfl rfl M (fun _ M => yp rfl) (ob 19 30 rfl (AW rfl rfl rfl) rfl rfl M (fun _ M => yp rfl) (ob 20 30 rfl (AW rfl rfl rfl) rfl rfl M (fun _ M => yp rfl) (ob 21 30 rfl (AW rfl rfl rfl) rfl rfl M (fun _ M => AU (xs := Md.cells m a) rfl rfl (MkN.rdm (M.ok 2 _ rfl)) underlying26 rfl BC) (ob 22 30 rfl (AW rfl rfl rfl) rfl rfl M (fun _ M => yp rfl) (ob 23 30 rfl (AW rfl rfl rfl) rfl rfl M (fun _ M => C0 rfl rfl (sc rfl) (M.cell 0 rfl rfl)) (ob 25 30 rfl (AW rfl rfl rfl) rfl rfl M (fun _ M => yp rfl) (ob 26 30 rfl (AW rfl rfl rfl) rfl rfl M (fun _ M => C0 rfl rfl (sc rfl) (M.cell 1 rfl rfl)) (BY 24 (some 42) (by kernel_rfl) rfl (AW rfl rfl rfl) rfl rfl (AE rfl rfl call96) (TL m a u.id _ ho (hM.fr0 (D9 hwe M.fr hFe))) ?_))))))))
     rintro _ w8 ⟨A42, c42, rfl, how8, hfw8⟩
     refine ⟨_, rfl, fun _ => M.step hfw8, ?_⟩
     have M := M.pushOwn hfw8 (Nat.le_refl _) how8
     have hL42 := M.ownLen 0 rfl
     refine BY 27 (some 45) (by kernel_rfl) rfl (AW rfl rfl rfl) rfl rfl (AE rfl rfl call85) (O9 _ _ (DL m.els u.id) _ _ (by have := LN m.els u.id; omega) (M.rdOwn 0 rfl)) ?_
     rintro _ w9 ⟨rfl, hfw9⟩
     refine ⟨_, rfl, fun _ => (M.drop 1).step hfw9, ?_⟩
     have M := M.step hfw9
     refine ob 28 30 rfl (AW rfl rfl rfl) rfl rfl (M.drop 1) (fun _ M => yp rfl) (oc 29 30 rfl rfl (M.drop 1) (BN (by kernel_rfl) (A5 (AT (b := ((DL m.els u.id).any (fun z => decide (y.att = z)))) rfl (fun h47 => ?_) (fun h47 => ?_)))))
     ·refine A0 (yb rfl (yb rfl (yl rfl rfl (M.cell 2 rfl rfl) (ya rfl (FE rfl rfl rfl (by first | omega | (simp only [List.length_cons, List.length_nil]; omega) | (simp only [List.length_append, List.length_cons, List.length_nil]; omega))) (yb rfl (yl rfl rfl (M.cell 1 rfl rfl) (ya rfl (FE rfl rfl rfl (by first | omega | (simp only [List.length_cons, List.length_nil]; omega) | (simp only [List.length_append, List.length_cons, List.length_nil]; omega))) (yb rfl (yl rfl rfl (M.cell 1 rfl rfl) (DC M (AA rfl) rfl rfl [str u.id] ([str u.id]) rfl rfl rfl rfl underlying29 CR rfl rfl (IK rfl) rfl fun g57 w10 hg57 M => yb rfl (cl 59 rfl (AE rfl rfl call36) (HB m a gx fin pl ts1 F1 ((y.id ++ [32]) ++ u.id) [u.id] l2 (some ⟨g57, 0, none⟩) B 1 cB _ (by first | omega | (simp <;> omega)) (by first | omega | exact AI rfl | (have := BS m.fls y.id; have := AQ m.fls y.id; have := ho.nfls; first | omega | (simp only [List.length_map]; first | omega | (have := AQ m.fls y.inn; omega) | (have := AQ m.fls ((BZ m.els y.id).getD zeroEl).id; omega)))) (by first | omega | exact AI rfl | (have := BS m.fls y.id; have := AQ m.fls y.id; have := ho.nfls; first | omega | (simp only [List.length_map]; first | omega | (have := AQ m.fls y.inn; omega) | (have := AQ m.fls ((BZ m.els y.id).getD zeroEl).id; omega)))) (M.rdBlk 0 rfl rfl) ((DW hB M.fr fun b off p e => (hnB b off p e).1)) (M.notMk 0 4 rfl rfl (by decide) IU) (nin hnB hF1) (M.ok 4 _ rfl)) ?_)))))))))))
      rintro _ w11 ⟨rfl, F59, hNw11, hqw11, hfw11⟩
      refine ⟨_, rfl, ?_⟩
      have hFw11 : ∀ g ∈ F59, g ∈ F ∨ w.heap.size ≤ g := fun g hg => (hqw11 g hg).elim (hF1 g) (fun h => .inr (Nat.le_trans M.fr.size h.1))
      have M := M.updMk 4 rfl hNw11 hqw11 hfw11
      refine A4 (AC (A5 (A0 (ya rfl (CI rfl rfl rfl (by omega)) (yb rfl (A4 (BF [(0, pg gx), (2, .slice B l2.length cB), (4, pg g4), (12, .slice a.E m.els.length a.ec), (13, .int .i64 ((m.els.length : Nat) : Int)), (14, .int .i64 (((i + 1) : Nat) : Int))] (m.els.length - (i + 1)) ⟨i + 1, ts1 ++ [trP pl ⟨((y.id ++ [32]) ++ u.id), [u.id], l2⟩], F59, rfl, (M.pk [3, 4]), ?_, ?_, ?_, ?_, rfl⟩ (by first | omega | (simp <;> omega)) ⟨rfl, rfl, rfl, rfl, rfl, rfl, trivial⟩)))))))
      ·omega
      ·first
        | exact IT hE1 (B3 hu) (by unfold EN; first | (simp [*]; done) | simp_all)
        | exact KJ hE1 (B3 hu) (by unfold EN; first | (simp [*]; done) | simp_all)
      ·assumption
      ·first | omega | (simp only [List.length_append, List.length_cons, List.length_nil]; omega)
     ·refine AN (AC (A5 (A0 (ya rfl (CI rfl rfl rfl (by omega)) (yb rfl (A4 (BF [(0, pg gx), (2, .slice B l2.length cB), (4, pg g4), (12, .slice a.E m.els.length a.ec), (13, .int .i64 ((m.els.length : Nat) : Int)), (14, .int .i64 (((i + 1) : Nat) : Int))] (m.els.length - (i + 1)) ⟨i + 1, ts1, F1, rfl, (M.pk [2, 3]), ?_, ?_, ?_, ?_, rfl⟩ (by first | omega | (simp <;> omega)) ⟨rfl, rfl, rfl, rfl, rfl, rfl, trivial⟩)))))))
      ·omega
      ·first
        | exact IT hE1 (B3 hu) (by unfold EN; first | (simp [*]; done) | simp_all)
        | exact KJ hE1 (B3 hu) (by unfold EN; first | (simp [*]; done) | simp_all)
      ·assumption
      ·first | omega | (simp only [List.length_append, List.length_cons, List.length_nil]; omega)
    ·refine oo1 18 30 rfl rfl rfl rfl rfl rfl rfl M (oo1 19 30 rfl rfl rfl rfl rfl rfl rfl M (oo1 20 30 rfl rfl rfl rfl rfl rfl rfl M (oo1 21 30 rfl rfl rfl rfl rfl rfl rfl M (oo1 22 30 rfl rfl rfl rfl rfl rfl rfl M (oo1 23 30 rfl rfl rfl rfl rfl rfl rfl M (oo1 24 30 rfl rfl rfl rfl rfl rfl rfl M (oo1 25 30 rfl rfl rfl rfl rfl rfl rfl M (oo1 26 30 rfl rfl rfl rfl rfl rfl rfl M (oo1 27 30 rfl rfl rfl rfl rfl rfl rfl M (ob 28 30 rfl (AW rfl rfl rfl) rfl rfl M (fun _ M => yp rfl) (oc 29 30 rfl rfl M (BN (by kernel_rfl) (A5 (CW rfl (AN ?_)))))))))))))))
     refine AC (A5 (A0 (ya rfl (CI rfl rfl rfl (by omega)) (yb rfl (A4 (BF [(0, pg gx), (2, .slice B l2.length cB), (4, pg g4), (12, .slice a.E m.els.length a.ec), (13, .int .i64 ((m.els.length : Nat) : Int)), (14, .int .i64 (((i + 1) : Nat) : Int))] (m.els.length - (i + 1)) ⟨i + 1, ts1, F1, rfl, (M.pk [1, 2]), ?_, ?_, ?_, ?_, rfl⟩ (by first | omega | (simp <;> omega)) ⟨rfl, rfl, rfl, rfl, rfl, rfl, trivial⟩))))))
     ·omega
     ·first
       | exact IT hE1 (B3 hu) (by unfold EN; first | (simp [*]; done) | simp_all)
       | exact KJ hE1 (B3 hu) (by unfold EN; first | (simp [*]; done) | simp_all)
     ·assumption
     ·first | omega | (simp only [List.length_append, List.length_cons, List.length_nil]; omega)
  ·have h23p := (odf h23)
   refine oo1 6 30 rfl rfl rfl rfl rfl rfl rfl M (oo1 7 30 rfl rfl rfl rfl rfl rfl rfl M (oo1 8 30 rfl rfl rfl rfl rfl rfl rfl M (oc 9 30 rfl rfl M (oc 10 30 rfl rfl M (ob 11 30 rfl (AW rfl rfl rfl) rfl rfl M (fun _ M => yp rfl) (ob 12 30 rfl (AW rfl rfl rfl) rfl rfl M (fun _ M => yp rfl) (ob 13 30 rfl (AW rfl rfl rfl) rfl rfl M (fun _ M => yp rfl) (ob 14 30 rfl (AW rfl rfl rfl) rfl rfl M (fun _ M => AU (xs := Md.cells m a) rfl rfl (MkN.rdm (M.ok 2 _ rfl)) underlying26 rfl BC) (ob 15 30 rfl (AW rfl rfl rfl) rfl rfl M (fun _ M => AU (xs := El.cells u) rfl rfl (M.rdBlk 0 rfl rfl) underlying39 rfl AP) (BY 16 (some 34) (by kernel_rfl) rfl (AW rfl rfl rfl) rfl rfl (AE rfl rfl call16) (R7 m a u _ ho (hM.fr0 (D9 hwe M.fr hFe))) ?_))))))))))
   rintro _ w12 ⟨rfl, hfw12⟩
   refine ⟨_, rfl, fun _ => M.step hfw12, ?_⟩
   have M := M.step hfw12
   refine ob 17 30 rfl (AW rfl rfl rfl) rfl rfl M (fun _ M => yp rfl) (EO (d := 35) (b := (FP m u)) rfl (fun h35 => ?_) (fun h35 => ?_))
   ·refine ob 18 30 rfl (AW rfl rfl rfl) rfl rfl M (fun _ M => yp rfl) (ob 19 30 rfl (AW rfl rfl rfl) rfl rfl M (fun _ M => yp rfl) (ob 20 30 rfl (AW rfl rfl rfl) rfl rfl M (fun _ M => yp rfl) (ob 21 30 rfl (AW rfl rfl rfl) rfl rfl M (fun _ M => AU (xs := Md.cells m a) rfl rfl (MkN.rdm (M.ok 2 _ rfl)) underlying26 rfl BC) (ob 22 30 rfl (AW rfl rfl rfl) rfl rfl M (fun _ M => yp rfl) (ob 23 30 rfl (AW rfl rfl rfl) rfl rfl M (fun _ M => C0 rfl rfl (sc rfl) (M.cell 0 rfl rfl)) (ob 25 30 rfl (AW rfl rfl rfl) rfl rfl M (fun _ M => yp rfl) (ob 26 30 rfl (AW rfl rfl rfl) rfl rfl M (fun _ M => C0 rfl rfl (sc rfl) (M.cell 1 rfl rfl)) (BY 24 (some 42) (by kernel_rfl) rfl (AW rfl rfl rfl) rfl rfl (AE rfl rfl call96) (TL m a u.id _ ho (hM.fr0 (D9 hwe M.fr hFe))) ?_))))))))
    rintro _ w13 ⟨A42, c42, rfl, how13, hfw13⟩
    refine ⟨_, rfl, fun _ => M.step hfw13, ?_⟩
    have M := M.pushOwn hfw13 (Nat.le_refl _) how13
    have hL42 := M.ownLen 0 rfl
    refine BY 27 (some 45) (by kernel_rfl) rfl (AW rfl rfl rfl) rfl rfl (AE rfl rfl call85) (O9 _ _ (DL m.els u.id) _ _ (by have := LN m.els u.id; omega) (M.rdOwn 0 rfl)) ?_
    rintro _ w14 ⟨rfl, hfw14⟩
    refine ⟨_, rfl, fun _ => (M.drop 1).step hfw14, ?_⟩
    have M := M.step hfw14
    refine ob 28 30 rfl (AW rfl rfl rfl) rfl rfl (M.drop 1) (fun _ M => yp rfl) (oc 29 30 rfl rfl (M.drop 1) (BN (by kernel_rfl) (A5 (AT (b := ((DL m.els u.id).any (fun z => decide (y.att = z)))) rfl (fun h47 => ?_) (fun h47 => ?_)))))
    ·refine A0 (yb rfl (yb rfl (yl rfl rfl (M.cell 2 rfl rfl) (ya rfl (FE rfl rfl rfl (by first | omega | (simp only [List.length_cons, List.length_nil]; omega) | (simp only [List.length_append, List.length_cons, List.length_nil]; omega))) (yb rfl (yl rfl rfl (M.cell 1 rfl rfl) (ya rfl (FE rfl rfl rfl (by first | omega | (simp only [List.length_cons, List.length_nil]; omega) | (simp only [List.length_append, List.length_cons, List.length_nil]; omega))) (yb rfl (yl rfl rfl (M.cell 1 rfl rfl) (DC M (AA rfl) rfl rfl [str u.id] ([str u.id]) rfl rfl rfl rfl underlying29 CR rfl rfl (IK rfl) rfl fun g57 w15 hg57 M => yb rfl (cl 59 rfl (AE rfl rfl call36) (HB m a gx fin pl ts1 F1 ((y.id ++ [32]) ++ u.id) [u.id] l2 (some ⟨g57, 0, none⟩) B 1 cB _ (by first | omega | (simp <;> omega)) (by first | omega | exact AI rfl | (have := BS m.fls y.id; have := AQ m.fls y.id; have := ho.nfls; first | omega | (simp only [List.length_map]; first | omega | (have := AQ m.fls y.inn; omega) | (have := AQ m.fls ((BZ m.els y.id).getD zeroEl).id; omega)))) (by first | omega | exact AI rfl | (have := BS m.fls y.id; have := AQ m.fls y.id; have := ho.nfls; first | omega | (simp only [List.length_map]; first | omega | (have := AQ m.fls y.inn; omega) | (have := AQ m.fls ((BZ m.els y.id).getD zeroEl).id; omega)))) (M.rdBlk 0 rfl rfl) ((DW hB M.fr fun b off p e => (hnB b off p e).1)) (M.notMk 0 4 rfl rfl (by decide) IU) (nin hnB hF1) (M.ok 4 _ rfl)) ?_)))))))))))
     rintro _ w16 ⟨rfl, F59, hNw16, hqw16, hfw16⟩
     refine ⟨_, rfl, ?_⟩
     have hFw16 : ∀ g ∈ F59, g ∈ F ∨ w.heap.size ≤ g := fun g hg => (hqw16 g hg).elim (hF1 g) (fun h => .inr (Nat.le_trans M.fr.size h.1))
     have M := M.updMk 4 rfl hNw16 hqw16 hfw16
     refine A4 (AC (A5 (A0 (ya rfl (CI rfl rfl rfl (by omega)) (yb rfl (A4 (BF [(0, pg gx), (2, .slice B l2.length cB), (4, pg g4), (12, .slice a.E m.els.length a.ec), (13, .int .i64 ((m.els.length : Nat) : Int)), (14, .int .i64 (((i + 1) : Nat) : Int))] (m.els.length - (i + 1)) ⟨i + 1, ts1 ++ [trP pl ⟨((y.id ++ [32]) ++ u.id), [u.id], l2⟩], F59, rfl, (M.pk [3, 4]), ?_, ?_, ?_, ?_, rfl⟩ (by first | omega | (simp <;> omega)) ⟨rfl, rfl, rfl, rfl, rfl, rfl, trivial⟩)))))))
     ·omega
     ·first
       | exact IT hE1 (B3 hu) (by unfold EN; first | (simp [*]; done) | simp_all)
       | exact KJ hE1 (B3 hu) (by unfold EN; first | (simp [*]; done) | simp_all)
     ·assumption
     ·first | omega | (simp only [List.length_append, List.length_cons, List.length_nil]; omega)
    ·refine AN (AC (A5 (A0 (ya rfl (CI rfl rfl rfl (by omega)) (yb rfl (A4 (BF [(0, pg gx), (2, .slice B l2.length cB), (4, pg g4), (12, .slice a.E m.els.length a.ec), (13, .int .i64 ((m.els.length : Nat) : Int)), (14, .int .i64 (((i + 1) : Nat) : Int))] (m.els.length - (i + 1)) ⟨i + 1, ts1, F1, rfl, (M.pk [2, 3]), ?_, ?_, ?_, ?_, rfl⟩ (by first | omega | (simp <;> omega)) ⟨rfl, rfl, rfl, rfl, rfl, rfl, trivial⟩)))))))
     ·omega
     ·first
       | exact IT hE1 (B3 hu) (by unfold EN; first | (simp [*]; done) | simp_all)
       | exact KJ hE1 (B3 hu) (by unfold EN; first | (simp [*]; done) | simp_all)
     ·assumption
     ·first | omega | (simp only [List.length_append, List.length_cons, List.length_nil]; omega)
   ·refine oo1 18 30 rfl rfl rfl rfl rfl rfl rfl M (oo1 19 30 rfl rfl rfl rfl rfl rfl rfl M (oo1 20 30 rfl rfl rfl rfl rfl rfl rfl M (oo1 21 30 rfl rfl rfl rfl rfl rfl rfl M (oo1 22 30 rfl rfl rfl rfl rfl rfl rfl M (oo1 23 30 rfl rfl rfl rfl rfl rfl rfl M (oo1 24 30 rfl rfl rfl rfl rfl rfl rfl M (oo1 25 30 rfl rfl rfl rfl rfl rfl rfl M (oo1 26 30 rfl rfl rfl rfl rfl rfl rfl M (oo1 27 30 rfl rfl rfl rfl rfl rfl rfl M (ob 28 30 rfl (AW rfl rfl rfl) rfl rfl M (fun _ M => yp rfl) (oc 29 30 rfl rfl M (BN (by kernel_rfl) (A5 (CW rfl (AN ?_)))))))))))))))
    refine AC (A5 (A0 (ya rfl (CI rfl rfl rfl (by omega)) (yb rfl (A4 (BF [(0, pg gx), (2, .slice B l2.length cB), (4, pg g4), (12, .slice a.E m.els.length a.ec), (13, .int .i64 ((m.els.length : Nat) : Int)), (14, .int .i64 (((i + 1) : Nat) : Int))] (m.els.length - (i + 1)) ⟨i + 1, ts1, F1, rfl, (M.pk [1, 2]), ?_, ?_, ?_, ?_, rfl⟩ (by first | omega | (simp <;> omega)) ⟨rfl, rfl, rfl, rfl, rfl, rfl, trivial⟩))))))
    ·omega
    ·first
      | exact IT hE1 (B3 hu) (by unfold EN; first | (simp [*]; done) | simp_all)
      | exact KJ hE1 (B3 hu) (by unfold EN; first | (simp [*]; done) | simp_all)
    ·assumption
    ·first | omega | (simp only [List.length_append, List.length_cons, List.length_nil]; omega)
 ·have h15p := (odf h15)
  refine C2 (AG (AG (B5 (C3 (Or.inr rfl) rfl ?_))))
  obtain rfl : i = m.els.length := by omega
  rw [List.take_length] at hE1
  exact ⟨rfl, GU (M.ok 1 _ rfl) hF1 M.fr hE1⟩
theorem nH (we : World) (m : Md) (a : MdA) (gx g3 : Nat) (fin : Int) (pl : List (List UInt8)) (ts : List Tr1) (F : List Nat) (y : El) (l1 l2 : List (List UInt8)) (A B : Option Addr) (cA cB : Nat)  (w : World) (ho : MdOk m) (hi : Ids m) (hy : y ∈ m.els) (hM : MdIn we m a) (hwe : Fr0 we w) (hFe : ∀ g ∈ F, we.heap.size ≤ g) (h3 : Blk w g3 52 [pg gx]) (hn3 : g3 ∉ F) (hts : ts.length ≤ 90000000) (hN : MkN w m a gx fin pl ts F) (hs1 : ∀ s ∈ l1, s.length ≤ 32) (hs2 : ∀ s ∈ l2, s.length ≤ 32) (hl1 : l1.length ≤ 400) (hl2 : l2.length ≤ 400) (hA : Rd w A (l1.length * 1) (AS D7 l1)) (hB : Rd w B (l2.length * 1) (AS D7 l2)) (hnA : ∀ b off p, A = some ⟨b, off, p⟩ → b ∉ F ∧ b < w.heap.size) (hnB : ∀ b off p, B = some ⟨b, off, p⟩ → b ∉ F ∧ b < w.heap.size)  :
 Calls prog 45 #[.agg y.cells.toArray, .slice A l1.length cA, .slice B l2.length cB, pg g3] w fun e w' => e = .returned (.tuple #[]) ∧ ME m a gx fin pl (ts ++ ((m.els.filter (EN m y)).map (fun u : El => (⟨y.id ++ [32] ++ u.id, [u.id], l2⟩ : Tr0))).map (trP pl)) F w w' := by
 have hF0 : ∀ g ∈ F, g ∈ F ∨ w.heap.size ≤ g := fun _ h => .inl h
 have hnf := ho.nfls
 have hne := ho.nels
 have hyi := E0 (hi.els y hy)
 have _u := And.intro hM (And.intro hwe (And.intro hFe (And.intro hs1 (And.intro hs2 (And.intro hl1 (And.intro hl2 (And.intro hA (And.intro hB (And.intro hnA hnB)))))))))
 refine AJ (vs := [_, _, _, _]) func45 rfl ntmps45 rfl ?_
 have M : Mem w (fun k => k ∈ F) [As.mk_ m a gx fin pl ts F] w := Mem.oneMk hN
 refine A9 (A0 (B4 M (AA rfl) rfl rfl 39 rfl rfl (El.cells y) rfl fun g4 w1 hg4 M => A4 (A5 (A0 (yl rfl rfl (Blk.c ((h3.fr M.fr hn3)) 0 rfl) (ya rfl (AU (xs := El.cells y) rfl rfl (M.rdBlk 0 rfl rfl) underlying39 rfl AP) (yb rfl (cl 10 rfl (AE rfl rfl call46) (jX we m a gx fin pl ts F y l2 B cB _ ho hi hy hM (D9 hwe M.fr hFe) hFe hts (M.ok 1 _ rfl) hl2 (DW hB M.fr fun b off p e => (hnB b off p e).1) (vU hnB hF0 M.fr.size)) ?_))))))))
 rintro _ w2 ⟨rfl, F10, hNw2, hqw2, hfw2⟩
 refine ⟨_, rfl, ?_⟩
 have hFw2 : ∀ g ∈ F10, g ∈ F ∨ w.heap.size ≤ g := fun g hg => (hqw2 g hg).elim (hF0 g) (fun h => .inr (Nat.le_trans M.fr.size h.1))
 have M := M.updMk 1 rfl hNw2 hqw2 hfw2
 exact A4 (C3 (Or.inr rfl) rfl ⟨rfl, GU (M.ok 1 _ rfl) hFw2 M.fr (by simp)⟩)
end Go.Proofs.YtdaihdknnlphkaaGreatDoor
