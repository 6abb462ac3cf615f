/- Lemmas that the last text rests on. Condition: each says its own. -/
import Derived.Test.YtdaihdknnlphkaaGreatDoorZCn2
set_option maxHeartbeats 16000000
set_option maxRecDepth 100000
namespace Go.Proofs.YtdaihdknnlphkaaGreatDoor
open Go.RowKit
open Tryz
theorem FE {P : Program} {e : Env} {w : World} {o : Oper} {t t' : Nat} {a b : List UInt8} {x y : Operand} (ho : o.op = .binOp .add t x y t') (hx : ev e x = some (str a)) (hy : ev e y = some (str b)) (hl : a.length + b.length ≤ 9223372036854775807) : Y P e o w (str (a ++ b)) := fun ρ h => by
 have h1 : ρ x = .string ⟨a.toArray⟩ := h _ _ hx
 have h2 : ρ y = .string ⟨b.toArray⟩ := h _ _ hy
 unfold execOp
 have hs : ((⟨a.toArray⟩ : ByteArray).size : Nat) = a.length := by show a.toArray.size = _; simp
 have hs2 : ((⟨b.toArray⟩ : ByteArray).size : Nat) = b.length := by show b.toArray.size = _; simp
 have hap : (⟨a.toArray⟩ : ByteArray) ++ (⟨b.toArray⟩ : ByteArray) = ⟨(a ++ b).toArray⟩ := by
  apply ByteArray.ext
  rw [ByteArray.data_append]
  simp
 simp [ho, h1, h2, binOp, Op.stringOp, eqGuard_at_string, hs, hs2, hap, str, show ¬ ((9223372036854775807 : Int) < (a.length : Int) + (b.length : Int)) by omega]
theorem MkN.rdm {w : World} {m : Md} {a : MdA} {gx : Nat} {fin : Int} {pl : List (List UInt8)} {ts : List Tr1} {F : List Nat} (h : MkN w m a gx fin pl ts F) : Rd w (some ⟨gx, 0, none⟩) 5 (Md.cells m a) := by
 obtain ⟨_, _, x, rfl, _, _, M⟩ := h
 exact II (M.blk 0 rfl) 0 5 rfl rfl
theorem MkN.cell {w : World} {m : Md} {a : MdA} {gx : Nat} {fin : Int} {pl : List (List UInt8)} {ts : List Tr1} {F : List Nat} (h : MkN w m a gx fin pl ts F) (k : Nat) {u : Value} (hu : (Md.cells m a)[k]? = some u) : Cell w.heap gx k u := by
 obtain ⟨_, _, x, rfl, _, _, M⟩ := h
 refine Blk.c (M.blk 0 rfl) k ?_
 have hk : k < 5 := (List.getElem?_eq_some_iff.1 hu).1
 match k, hk with
 | 0, _ => exact hu
 | 1, _ => exact hu
 | 2, _ => exact hu
 | 3, _ => exact hu
 | 4, _ => exact hu
theorem nin {w : World} {F F' : List Nat} {A : Option Addr} (h : ∀ b off p, A = some ⟨b, off, p⟩ → b ∉ F ∧ b < w.heap.size) (hF : ∀ g ∈ F', g ∈ F ∨ w.heap.size ≤ g) : ∀ b off p, A = some ⟨b, off, p⟩ → b ∉ F' := fun b off p e hb => by
 obtain ⟨h1, h2⟩ := h b off p e
 rcases hF b hb with hh | hh
 ·exact h1 hh
 ·omega
theorem vU {w w' : World} {F F' : List Nat} {A : Option Addr} (h : ∀ b off p, A = some ⟨b, off, p⟩ → b ∉ F ∧ b < w.heap.size) (hF : ∀ g ∈ F', g ∈ F ∨ w.heap.size ≤ g) (hs : w.heap.size ≤ w'.heap.size) : ∀ b off p, A = some ⟨b, off, p⟩ → b ∉ F' ∧ b < w'.heap.size := fun b off p e =>
 ⟨nin h hF b off p e, Nat.lt_of_lt_of_le (h b off p e).2 hs⟩
theorem E0 {s : List UInt8} (h : BL s = true) : s.length ≤ 32 := by
 unfold BL at h
 simp only [Bool.and_eq_true, decide_eq_true_eq] at h
 exact h.1.2
theorem GU {w w' : World} {m : Md} {a : MdA} {gx : Nat} {fin : Int} {pl : List (List UInt8)} {ts ts' : List Tr1} {F F' : List Nat} (hN : MkN w' m a gx fin pl ts F') (hF : ∀ g ∈ F', g ∈ F ∨ w.heap.size ≤ g) (hf : Fr (fun k => k ∈ F) w w') (hts : ts = ts') : ME m a gx fin pl ts' F w w' := by
 subst hts
 exact ⟨F', hN, fun g hg => (hF g hg).imp id fun h => ⟨h, hN.lt g hg⟩, hf⟩
theorem R7 (m : Md) (a : MdA) (y : El) (w : World) (ho : MdOk m) (hM : MdIn w m a) :
 Calls prog 16 #[.agg (Md.cells m a).toArray, .agg y.cells.toArray] w fun e w' => e = .returned (.bool (FP m y)) ∧ Fr0 w w' := by
 refine AJ (vs := [_, _]) func16 rfl ntmps16 rfl ?_
 have M := CN w
 refine A9 (A0 (B4 M (AA rfl) rfl rfl 26 rfl rfl (Md.cells m a) rfl fun g2 w1 hg2 M => B4 M (AA rfl) rfl rfl 39 rfl rfl (El.cells y) rfl fun g3 w2 hg3 M => yb rfl (A4 (A5 (A9 (A9 (A0 (yb rfl (yl rfl rfl (M.cell 0 rfl rfl) (A4 (A5 ?_)))))))))))
 refine AV (A9 (A9 (A0 (ya rfl (BB rfl rfl rfl) (yb rfl (A4 (A5 (AT (b := (decide ((y.kind.toNat : Int) = (3 : Int)))) rfl (fun h9 => ?_) (fun h9 => ?_)))))))))
 ·have h9p := (odt h9)
  refine AN (A5 (AT (b := (decide ((y.kind.toNat : Int) = (3 : Int)))) rfl (fun h9 => ?_) (fun h9 => ?_)))
  ·have h9p := (odt h9)
   exact A9 (A0 (yb rfl (A4 (A5 (AF (AL (AB (AK rfl rfl ⟨by unfold FP; simp [*], M.fr⟩))))))))
  ·have h9p := (odf h9)
   refine A9 (A0 (ya rfl (BB rfl rfl rfl) (yb rfl (A4 (A5 (AT (b := (decide ((y.kind.toNat : Int) = (8 : Int)))) rfl (fun h13 => ?_) (fun h13 => ?_)))))))
   ·have h13p := (odt h13)
    refine A9 (A0 (ya rfl (AU (xs := Md.cells m a) rfl rfl (M.rdBlk 1 rfl rfl) underlying26 rfl BC) (yb rfl (yl rfl rfl (M.cell 0 rfl rfl) (cp M 19 rfl (AE rfl rfl call34) (SR m a y.id _ ho (hM.fr0 M.fr)) fun w3 M => ?_)))))
    iterate 5 refine yb rfl ?_
    refine A4 (A5 (A9 (A0 (yb rfl (yb rfl (yb rfl (A4 (A5 (AF (AL (AB (AK rfl rfl ?_))))))))))))
    contradiction
   ·have h13p := (odf h13)
    refine AN (AC (A5 (A9 (A0 (yb rfl (A4 (A5 (AF (AK rfl rfl ?_)))))))))
    contradiction
 ·have h9p := (odf h9)
  refine A9 (A0 (ya rfl (BB rfl rfl rfl) (yb rfl (A4 (A5 (QN [(2, pg g2), (3, pg g3), (8, .int .u8 (y.kind.toNat : Int)), (9, .bool ((decide ((y.kind.toNat : Int) = (4 : Int))) || (decide ((y.kind.toNat : Int) = (7 : Int)))))] (fun w' => Mem w AD [As.blk g3 39 (El.cells y), As.blk g2 26 (Md.cells m a)] w') ?_ (fun k9 => ?_)))))))
  ·intro w4 M
   refine A5 (AT (b := ((decide ((y.kind.toNat : Int) = (4 : Int))) || (decide ((y.kind.toNat : Int) = (7 : Int))))) rfl (fun h9 => ?_) (fun h9 => ?_))
   ·have h9p := ((EL h9).imp (fun z => (odt z)) (fun z => (odt z)))
    exact A9 (A0 (yb rfl (A4 (A5 (AF (AL (AB (AK rfl rfl ⟨by unfold FP; simp [*], M.fr⟩))))))))
   ·have h9p := (And.intro (odf (CE h9).1) (odf (CE h9).2))
    refine A9 (A0 (ya rfl (BB rfl rfl rfl) (yb rfl (A4 (A5 (AT (b := (decide ((y.kind.toNat : Int) = (8 : Int)))) rfl (fun h13 => ?_) (fun h13 => ?_)))))))
    ·have h13p := (odt h13)
     refine A9 (A0 (ya rfl (AU (xs := Md.cells m a) rfl rfl (M.rdBlk 1 rfl rfl) underlying26 rfl BC) (yb rfl (yl rfl rfl (M.cell 0 rfl rfl) (cp M 19 rfl (AE rfl rfl call34) (SR m a y.id _ ho (hM.fr0 M.fr)) fun w5 M => ?_)))))
     iterate 5 refine yb rfl ?_
     exact A4 (A5 (A9 (A0 (yb rfl (yb rfl (yb rfl (A4 (A5 (AF (AL (AB (AK rfl rfl ⟨by unfold FP; simp [*], M.fr⟩))))))))))))
    ·have h13p := (odf h13)
     exact AN (AC (A5 (A9 (A0 (yb rfl (A4 (A5 (AF (AK rfl rfl ⟨by unfold FP; simp [*], M.fr⟩)))))))))
  refine AT (b := (decide ((y.kind.toNat : Int) = (4 : Int)))) rfl (fun h9 => ?_) (fun h9 => ?_)
  ·exact AN (k9 _ _ M ⟨rfl, rfl, rfl, (by rw [h9]; rfl), trivial⟩)
  ·exact A0 (ya rfl (BB rfl rfl rfl) (yb rfl (A4 (k9 _ _ M ⟨rfl, rfl, rfl, (by rw [h9]; rfl), trivial⟩))))
theorem VU (we : World) (m : Md) (a : MdA) (gx g3 : Nat) (fin : Int) (pl : List (List UInt8)) (ts : List Tr1) (F : List Nat) (y : El) (l1 l2 : List (List UInt8)) (A B : Option Addr) (cA cB : Nat)  (w : World) (ho : MdOk m) (hi : Ids m) (hy : y ∈ m.els) (hM : MdIn we m a) (hwe : Fr0 we w) (hFe : ∀ g ∈ F, we.heap.size ≤ g) (h3 : Blk w g3 52 [pg gx]) (hn3 : g3 ∉ F) (hts : ts.length ≤ 90000000) (hN : MkN w m a gx fin pl ts F) (hs1 : ∀ s ∈ l1, s.length ≤ 32) (hs2 : ∀ s ∈ l2, s.length ≤ 32) (hl1 : l1.length ≤ 400) (hl2 : l2.length ≤ 400) (hA : Rd w A (l1.length * 1) (AS D7 l1)) (hB : Rd w B (l2.length * 1) (AS D7 l2)) (hnA : ∀ b off p, A = some ⟨b, off, p⟩ → b ∉ F ∧ b < w.heap.size) (hnB : ∀ b off p, B = some ⟨b, off, p⟩ → b ∉ F ∧ b < w.heap.size)  :
 Calls prog 35 #[.agg y.cells.toArray, .slice A l1.length cA, .slice B l2.length cB, pg g3] w fun e w' => e = .returned (.tuple #[]) ∧ ME m a gx fin pl (ts ++ (IZ y l1 l2).map (trP pl)) F w w' := by
 have hF0 : ∀ g ∈ F, g ∈ F ∨ w.heap.size ≤ g := fun _ h => .inl h
 have hnf := ho.nfls
 have hne := ho.nels
 have hyi := E0 (hi.els y hy)
 have _u := And.intro hM (And.intro hwe (And.intro hFe (And.intro hs1 (And.intro hs2 (And.intro hl1 (And.intro hl2 (And.intro hA (And.intro hB (And.intro hnA hnB)))))))))
 refine AJ (vs := [_, _, _, _]) func35 rfl ntmps35 rfl ?_
 have M : Mem w (fun k => k ∈ F) [As.mk_ m a gx fin pl ts F] w := Mem.oneMk hN
 refine A9 (A0 (B4 M (AA rfl) rfl rfl 39 rfl rfl (El.cells y) rfl fun g4 w1 hg4 M => A4 (A5 (A9 (A0 (yl rfl rfl (Blk.c ((h3.fr M.fr hn3)) 0 rfl) (yb rfl (yl rfl rfl (M.cell 0 rfl rfl) (ya rfl (FE rfl rfl rfl (by first | omega | (simp only [List.length_cons, List.length_nil]; omega) | (simp only [List.length_append, List.length_cons, List.length_nil]; omega))) (yb rfl (yb rfl (yl rfl rfl (M.cell 0 rfl rfl) (DC M (AA rfl) rfl rfl [str y.id] ([str y.id]) rfl rfl rfl rfl underlying29 CR rfl rfl (IK rfl) rfl ?_)))))))))))))
 intro g14 w2 hg14 M
 refine cl 15 rfl (AE rfl rfl call36) (HB m a gx fin pl ts F (y.id ++ [43]) l1 [y.id] A (some ⟨g14, 0, none⟩) cA 1 _ (by first | omega | (simp <;> omega)) (by first | omega | exact AI rfl | (have := BS m.fls y.id; have := AQ m.fls y.id; have := ho.nfls; first | omega | (simp only [List.length_map]; first | omega | (have := AQ m.fls y.inn; omega) | (have := AQ m.fls ((BZ m.els y.id).getD zeroEl).id; omega)))) (by first | omega | exact AI rfl | (have := BS m.fls y.id; have := AQ m.fls y.id; have := ho.nfls; first | omega | (simp only [List.length_map]; first | omega | (have := AQ m.fls y.inn; omega) | (have := AQ m.fls ((BZ m.els y.id).getD zeroEl).id; omega)))) ((DW hA M.fr fun b off p e => (hnA b off p e).1)) (M.rdBlk 0 rfl rfl) (nin hnA hF0) (M.notMk 0 2 rfl rfl (by decide) IU) (M.ok 2 _ rfl)) ?_
 rintro _ w3 ⟨rfl, F15, hNw3, hqw3, hfw3⟩
 refine ⟨_, rfl, ?_⟩
 have hFw3 : ∀ g ∈ F15, g ∈ F ∨ w.heap.size ≤ g := fun g hg => (hqw3 g hg).elim (hF0 g) (fun h => .inr (Nat.le_trans M.fr.size h.1))
 have M := M.updMk 2 rfl hNw3 hqw3 hfw3
 refine A4 (A5 (A0 (yl rfl rfl (Blk.c ((h3.fr M.fr hn3)) 0 rfl) (yb rfl (yl rfl rfl (M.cell 1 rfl rfl) (ya rfl (FE rfl rfl rfl (by first | omega | (simp only [List.length_cons, List.length_nil]; omega) | (simp only [List.length_append, List.length_cons, List.length_nil]; omega))) (yb rfl (yl rfl rfl (M.cell 1 rfl rfl) (DC M (AA rfl) rfl rfl [str y.id] ([str y.id]) rfl rfl rfl rfl underlying29 CR rfl rfl (IK rfl) rfl fun g22 w4 hg22 M => yb rfl (cl 24 rfl (AE rfl rfl call36) (HB m a gx fin pl (ts ++ [trP pl ⟨(y.id ++ [43]), l1, [y.id]⟩]) F15 (y.id ++ [33]) [y.id] l2 (some ⟨g22, 0, none⟩) B 1 cB _ (by first | omega | (simp <;> omega)) (by first | omega | exact AI rfl | (have := BS m.fls y.id; have := AQ m.fls y.id; have := ho.nfls; first | omega | (simp only [List.length_map]; first | omega | (have := AQ m.fls y.inn; omega) | (have := AQ m.fls ((BZ m.els y.id).getD zeroEl).id; omega)))) (by first | omega | exact AI rfl | (have := BS m.fls y.id; have := AQ m.fls y.id; have := ho.nfls; first | omega | (simp only [List.length_map]; first | omega | (have := AQ m.fls y.inn; omega) | (have := AQ m.fls ((BZ m.els y.id).getD zeroEl).id; omega)))) (M.rdBlk 0 rfl rfl) ((DW hB M.fr fun b off p e => (hnB b off p e).1)) (M.notMk 0 3 rfl rfl (by decide) IU) (nin hnB hFw3) (M.ok 3 _ rfl)) ?_))))))))))
 rintro _ w5 ⟨rfl, F24, hNw5, hqw5, hfw5⟩
 refine ⟨_, rfl, ?_⟩
 have hFw5 : ∀ g ∈ F24, g ∈ F ∨ w.heap.size ≤ g := fun g hg => (hqw5 g hg).elim (hFw3 g) (fun h => .inr (Nat.le_trans M.fr.size h.1))
 have M := M.updMk 3 rfl hNw5 hqw5 hfw5
 exact A4 (C3 (Or.inr rfl) rfl ⟨rfl, GU (M.ok 3 _ rfl) hFw5 M.fr (by simp [IZ])⟩)
theorem j0 (we : World) (m : Md) (a : MdA) (gx g3 : Nat) (fin : Int) (pl : List (List UInt8)) (ts : List Tr1) (F : List Nat) (y : El) (l1 l2 : List (List UInt8)) (A B : Option Addr) (cA cB : Nat)  (w : World) (ho : MdOk m) (hi : Ids m) (hy : y ∈ m.els) (hM : MdIn we m a) (hwe : Fr0 we w) (hFe : ∀ g ∈ F, we.heap.size ≤ g) (h3 : Blk w g3 52 [pg gx]) (hn3 : g3 ∉ F) (hts : ts.length ≤ 90000000) (hN : MkN w m a gx fin pl ts F) (hs1 : ∀ s ∈ l1, s.length ≤ 32) (hs2 : ∀ s ∈ l2, s.length ≤ 32) (hl1 : l1.length ≤ 400) (hl2 : l2.length ≤ 400) (hA : Rd w A (l1.length * 1) (AS D7 l1)) (hB : Rd w B (l2.length * 1) (AS D7 l2)) (hnA : ∀ b off p, A = some ⟨b, off, p⟩ → b ∉ F ∧ b < w.heap.size) (hnB : ∀ b off p, B = some ⟨b, off, p⟩ → b ∉ F ∧ b < w.heap.size)  :
 Calls prog 37 #[.agg y.cells.toArray, .slice A l1.length cA, .slice B l2.length cB, pg g3] w fun e w' => e = .returned (.tuple #[]) ∧ ME m a gx fin pl (ts ++ (if y.inn = [] then [⟨y.id, [sIn], l2⟩] else ([] : List Tr0)).map (trP pl)) F w w' := by
 have hF0 : ∀ g ∈ F, g ∈ F ∨ w.heap.size ≤ g := fun _ h => .inl h
 have hnf := ho.nfls
 have hne := ho.nels
 have hyi := E0 (hi.els y hy)
 have _u := And.intro hM (And.intro hwe (And.intro hFe (And.intro hs1 (And.intro hs2 (And.intro hl1 (And.intro hl2 (And.intro hA (And.intro hB (And.intro hnA hnB)))))))))
 refine AJ (vs := [_, _, _, _]) func37 rfl ntmps37 rfl ?_
 have M : Mem w (fun k => k ∈ F) [As.mk_ m a gx fin pl ts F] w := Mem.oneMk hN
 refine A9 (A0 (B4 M (AA rfl) rfl rfl 39 rfl rfl (El.cells y) rfl fun g4 w1 hg4 M => A4 (A5 (A9 (A0 (yb rfl (yl rfl rfl (M.cell 0 rfl rfl) (ya rfl (DE rfl rfl rfl) (A4 (A5 (AT (b := (decide (y.inn = []))) rfl (fun h9 => ?_) (fun h9 => ?_))))))))))))
 ·have h9p := (odt h9)
  refine A0 (yl rfl rfl (Blk.c ((h3.fr M.fr hn3)) 0 rfl) (yb rfl (yl rfl rfl (M.cell 0 rfl rfl) (DC M (AA rfl) rfl rfl [str [40, 105, 110, 41]] ([str [40, 105, 110, 41]]) rfl rfl rfl rfl underlying29 CR rfl rfl (IK rfl) rfl fun g13 w2 hg13 M => yb rfl (cl 15 rfl (AE rfl rfl call36) (HB m a gx fin pl ts F y.id [[40, 105, 110, 41]] l2 (some ⟨g13, 0, none⟩) B 1 cB _ (by first | omega | (simp <;> omega)) (by first | omega | exact AI rfl | (have := BS m.fls y.id; have := AQ m.fls y.id; have := ho.nfls; first | omega | (simp only [List.length_map]; first | omega | (have := AQ m.fls y.inn; omega) | (have := AQ m.fls ((BZ m.els y.id).getD zeroEl).id; omega)))) (by first | omega | exact AI rfl | (have := BS m.fls y.id; have := AQ m.fls y.id; have := ho.nfls; first | omega | (simp only [List.length_map]; first | omega | (have := AQ m.fls y.inn; omega) | (have := AQ m.fls ((BZ m.els y.id).getD zeroEl).id; omega)))) (M.rdBlk 0 rfl rfl) ((DW hB M.fr fun b off p e => (hnB b off p e).1)) (M.notMk 0 2 rfl rfl (by decide) IU) (nin hnB hF0) (M.ok 2 _ rfl)) ?_)))))
  rintro _ w3 ⟨rfl, F15, hNw3, hqw3, hfw3⟩
  refine ⟨_, rfl, ?_⟩
  have hFw3 : ∀ g ∈ F15, g ∈ F ∨ w.heap.size ≤ g := fun g hg => (hqw3 g hg).elim (hF0 g) (fun h => .inr (Nat.le_trans M.fr.size h.1))
  have M := M.updMk 2 rfl hNw3 hqw3 hfw3
  exact A4 (C3 (Or.inr rfl) rfl ⟨rfl, GU (M.ok 2 _ rfl) hFw3 M.fr (by simp [*, sIn])⟩)
 ·have h9p := (odf h9)
  exact AN (C3 (Or.inr rfl) rfl ⟨rfl, GU (M.ok 1 _ rfl) hF0 M.fr (by simp [*])⟩)
theorem nF (we : World) (m : Md) (a : MdA) (gx g3 : Nat) (fin : Int) (pl : List (List UInt8)) (ts : List Tr1) (F : List Nat) (y : El) (l1 l2 : List (List UInt8)) (A B : Option Addr) (cA cB : Nat)  (w : World) (ho : MdOk m) (hi : Ids m) (hy : y ∈ m.els) (hM : MdIn we m a) (hwe : Fr0 we w) (hFe : ∀ g ∈ F, we.heap.size ≤ g) (h3 : Blk w g3 52 [pg gx]) (hn3 : g3 ∉ F) (hts : ts.length ≤ 90000000) (hN : MkN w m a gx fin pl ts F) (hs1 : ∀ s ∈ l1, s.length ≤ 32) (hs2 : ∀ s ∈ l2, s.length ≤ 32) (hl1 : l1.length ≤ 400) (hl2 : l2.length ≤ 400) (hA : Rd w A (l1.length * 1) (AS D7 l1)) (hB : Rd w B (l2.length * 1) (AS D7 l2)) (hnA : ∀ b off p, A = some ⟨b, off, p⟩ → b ∉ F ∧ b < w.heap.size) (hnB : ∀ b off p, B = some ⟨b, off, p⟩ → b ∉ F ∧ b < w.heap.size)  :
 Calls prog 40 #[.agg y.cells.toArray, .slice A l1.length cA, .slice B l2.length cB, pg g3] w fun e w' => e = .returned (.tuple #[]) ∧ ME m a gx fin pl (ts ++ (([⟨y.id ++ [43], l1, [y.id]⟩] : List Tr0)).map (trP pl)) F w w' := by
 have hF0 : ∀ g ∈ F, g ∈ F ∨ w.heap.size ≤ g := fun _ h => .inl h
 have hnf := ho.nfls
 have hne := ho.nels
 have hyi := E0 (hi.els y hy)
 have _u := And.intro hM (And.intro hwe (And.intro hFe (And.intro hs1 (And.intro hs2 (And.intro hl1 (And.intro hl2 (And.intro hA (And.intro hB (And.intro hnA hnB)))))))))
 refine AJ (vs := [_, _, _, _]) func40 rfl ntmps40 rfl ?_
 have M : Mem w (fun k => k ∈ F) [As.mk_ m a gx fin pl ts F] w := Mem.oneMk hN
 refine A9 (A0 (B4 M (AA rfl) rfl rfl 39 rfl rfl (El.cells y) rfl fun g4 w1 hg4 M => A4 (A5 (A0 (yl rfl rfl (Blk.c ((h3.fr M.fr hn3)) 0 rfl) (yb rfl (yl rfl rfl (M.cell 0 rfl rfl) (ya rfl (FE rfl rfl rfl (by first | omega | (simp only [List.length_cons, List.length_nil]; omega) | (simp only [List.length_append, List.length_cons, List.length_nil]; omega))) (yb rfl (yb rfl (yl rfl rfl (M.cell 0 rfl rfl) (DC M (AA rfl) rfl rfl [str y.id] ([str y.id]) rfl rfl rfl rfl underlying29 CR rfl rfl (IK rfl) rfl fun g14 w2 hg14 M => ?_))))))))))))
 refine cl 15 rfl (AE rfl rfl call36) (HB m a gx fin pl ts F (y.id ++ [43]) l1 [y.id] A (some ⟨g14, 0, none⟩) cA 1 _ (by first | omega | (simp <;> omega)) (by first | omega | exact AI rfl | (have := BS m.fls y.id; have := AQ m.fls y.id; have := ho.nfls; first | omega | (simp only [List.length_map]; first | omega | (have := AQ m.fls y.inn; omega) | (have := AQ m.fls ((BZ m.els y.id).getD zeroEl).id; omega)))) (by first | omega | exact AI rfl | (have := BS m.fls y.id; have := AQ m.fls y.id; have := ho.nfls; first | omega | (simp only [List.length_map]; first | omega | (have := AQ m.fls y.inn; omega) | (have := AQ m.fls ((BZ m.els y.id).getD zeroEl).id; omega)))) ((DW hA M.fr fun b off p e => (hnA b off p e).1)) (M.rdBlk 0 rfl rfl) (nin hnA hF0) (M.notMk 0 2 rfl rfl (by decide) IU) (M.ok 2 _ rfl)) ?_
 rintro _ w3 ⟨rfl, F15, hNw3, hqw3, hfw3⟩
 refine ⟨_, rfl, ?_⟩
 have hFw3 : ∀ g ∈ F15, g ∈ F ∨ w.heap.size ≤ g := fun g hg => (hqw3 g hg).elim (hF0 g) (fun h => .inr (Nat.le_trans M.fr.size h.1))
 have M := M.updMk 2 rfl hNw3 hqw3 hfw3
 exact A4 (C3 (Or.inr rfl) rfl ⟨rfl, GU (M.ok 2 _ rfl) hFw3 M.fr (by simp)⟩)
theorem sK (we : World) (m : Md) (a : MdA) (gx g3 : Nat) (fin : Int) (pl : List (List UInt8)) (ts : List Tr1) (F : List Nat) (y : El) (l1 l2 : List (List UInt8)) (A B : Option Addr) (cA cB : Nat)  (w : World) (ho : MdOk m) (hi : Ids m) (hy : y ∈ m.els) (hM : MdIn we m a) (hwe : Fr0 we w) (hFe : ∀ g ∈ F, we.heap.size ≤ g) (h3 : Blk w g3 52 [pg gx]) (hn3 : g3 ∉ F) (hts : ts.length ≤ 90000000) (hN : MkN w m a gx fin pl ts F) (hs1 : ∀ s ∈ l1, s.length ≤ 32) (hs2 : ∀ s ∈ l2, s.length ≤ 32) (hl1 : l1.length ≤ 400) (hl2 : l2.length ≤ 400) (hA : Rd w A (l1.length * 1) (AS D7 l1)) (hB : Rd w B (l2.length * 1) (AS D7 l2)) (hnA : ∀ b off p, A = some ⟨b, off, p⟩ → b ∉ F ∧ b < w.heap.size) (hnB : ∀ b off p, B = some ⟨b, off, p⟩ → b ∉ F ∧ b < w.heap.size)  :
 Calls prog 42 #[.agg y.cells.toArray, .slice A l1.length cA, .slice B l2.length cB, pg g3] w fun e w' => e = .returned (.tuple #[]) ∧ ME m a gx fin pl (ts ++ (([⟨y.id, l1, l2⟩] : List Tr0)).map (trP pl)) F w w' := by
 have hF0 : ∀ g ∈ F, g ∈ F ∨ w.heap.size ≤ g := fun _ h => .inl h
 have hnf := ho.nfls
 have hne := ho.nels
 have hyi := E0 (hi.els y hy)
 have _u := And.intro hM (And.intro hwe (And.intro hFe (And.intro hs1 (And.intro hs2 (And.intro hl1 (And.intro hl2 (And.intro hA (And.intro hB (And.intro hnA hnB)))))))))
 refine AJ (vs := [_, _, _, _]) func42 rfl ntmps42 rfl ?_
 have M : Mem w (fun k => k ∈ F) [As.mk_ m a gx fin pl ts F] w := Mem.oneMk hN
 refine A9 (A0 (B4 M (AA rfl) rfl rfl 39 rfl rfl (El.cells y) rfl fun g4 w1 hg4 M => A4 (A5 (A0 (yl rfl rfl (Blk.c ((h3.fr M.fr hn3)) 0 rfl) (yb rfl (yl rfl rfl (M.cell 0 rfl rfl) (yb rfl (yb rfl (cl 12 rfl (AE rfl rfl call36) (HB m a gx fin pl ts F y.id l1 l2 A B cA cB _ (by first | omega | (simp <;> omega)) (by first | omega | exact AI rfl | (have := BS m.fls y.id; have := AQ m.fls y.id; have := ho.nfls; first | omega | (simp only [List.length_map]; first | omega | (have := AQ m.fls y.inn; omega) | (have := AQ m.fls ((BZ m.els y.id).getD zeroEl).id; omega)))) (by first | omega | exact AI rfl | (have := BS m.fls y.id; have := AQ m.fls y.id; have := ho.nfls; first | omega | (simp only [List.length_map]; first | omega | (have := AQ m.fls y.inn; omega) | (have := AQ m.fls ((BZ m.els y.id).getD zeroEl).id; omega)))) ((DW hA M.fr fun b off p e => (hnA b off p e).1)) ((DW hB M.fr fun b off p e => (hnB b off p e).1)) (nin hnA hF0) (nin hnB hF0) (M.ok 1 _ rfl)) ?_))))))))))
 rintro _ w2 ⟨rfl, F12, hNw2, hqw2, hfw2⟩
 refine ⟨_, rfl, ?_⟩
 have hFw2 : ∀ g ∈ F12, g ∈ F ∨ w.heap.size ≤ g := fun g hg => (hqw2 g hg).elim (hF0 g) (fun h => .inr (Nat.le_trans M.fr.size h.1))
 have M := M.updMk 1 rfl hNw2 hqw2 hfw2
 exact A4 (C3 (Or.inr rfl) rfl ⟨rfl, GU (M.ok 1 _ rfl) hFw2 M.fr (by simp)⟩)
theorem sL (we : World) (m : Md) (a : MdA) (gx g3 : Nat) (fin : Int) (pl : List (List UInt8)) (ts : List Tr1) (F : List Nat) (y : El) (l1 l2 : List (List UInt8)) (A B : Option Addr) (cA cB : Nat)  (w : World) (ho : MdOk m) (hi : Ids m) (hy : y ∈ m.els) (hM : MdIn we m a) (hwe : Fr0 we w) (hFe : ∀ g ∈ F, we.heap.size ≤ g) (h3 : Blk w g3 52 [pg gx]) (hn3 : g3 ∉ F) (hts : ts.length ≤ 90000000) (hN : MkN w m a gx fin pl ts F) (hs1 : ∀ s ∈ l1, s.length ≤ 32) (hs2 : ∀ s ∈ l2, s.length ≤ 32) (hl1 : l1.length ≤ 400) (hl2 : l2.length ≤ 400) (hA : Rd w A (l1.length * 1) (AS D7 l1)) (hB : Rd w B (l2.length * 1) (AS D7 l2)) (hnA : ∀ b off p, A = some ⟨b, off, p⟩ → b ∉ F ∧ b < w.heap.size) (hnB : ∀ b off p, B = some ⟨b, off, p⟩ → b ∉ F ∧ b < w.heap.size)  :
 Calls prog 38 #[.agg y.cells.toArray, .slice A l1.length cA, .slice B l2.length cB, pg g3] w fun e w' => e = .returned (.tuple #[]) ∧ ME m a gx fin pl (ts ++ ([⟨y.id, l1, if y.inn = [] then [sOut] else CJ m y.inn⟩]).map (trP pl)) F w w' := by
 have hF0 : ∀ g ∈ F, g ∈ F ∨ w.heap.size ≤ g := fun _ h => .inl h
 have hnf := ho.nfls
 have hne := ho.nels
 have hyi := E0 (hi.els y hy)
 have _u := And.intro hM (And.intro hwe (And.intro hFe (And.intro hs1 (And.intro hs2 (And.intro hl1 (And.intro hl2 (And.intro hA (And.intro hB (And.intro hnA hnB)))))))))
 refine AJ (vs := [_, _, _, _]) func38 rfl ntmps38 rfl ?_
 have M : Mem w (fun k => k ∈ F) [As.mk_ m a gx fin pl ts F] w := Mem.oneMk hN
 refine A9 (A0 (B4 M (AA rfl) rfl rfl 39 rfl rfl (El.cells y) rfl fun g4 w1 hg4 M => A4 (A5 (A9 (A0 (DC M (AA rfl) rfl rfl [str [40, 111, 117, 116, 41]] ([str [40, 111, 117, 116, 41]]) rfl rfl rfl rfl underlying29 CR rfl rfl (IK rfl) rfl fun g8 w2 hg8 M => yb rfl (A4 (A5 (A9 (A9 (A0 ?_)))))))))))
 refine yb rfl (yl rfl rfl (M.cell 1 rfl rfl) (ya rfl (GR rfl rfl rfl) (A4 (A5 (AT (b := (!decide (y.inn = []))) rfl (fun h11 => ?_) (fun h11 => ?_))))))
 ·have h11p := (odf (C4 h11))
  refine GC 6 DV (by kernel_rfl) ?_
  have M := M.drew
  refine sd rfl rfl (Blk.c ((h3.fr M.fr hn3)) 0 rfl) (sb rfl (sb rfl (sa rfl (AU (xs := Md.cells m a) rfl rfl (MkN.rdm (M.ok 2 _ rfl)) underlying26 rfl BC) (sb rfl (sd rfl rfl (M.cell 1 rfl rfl) (E9 (cl 18 rfl (AE rfl rfl call19) (S0 m a y.inn _ ho (hM.fr0 (D9 hwe M.fr hFe))) ?_)))))))
  rintro _ w3 ⟨A18, c18, rfl, how3, hfw3⟩
  refine ⟨_, rfl, ?_⟩
  have M := M.pushOwn hfw3 (Nat.le_refl _) how3
  have hL18 := M.ownLen 0 rfl
  refine yb rfl (A4 (A5 (A0 (yl rfl rfl (Blk.c ((h3.fr M.fr hn3)) 0 rfl) (yb rfl (yl rfl rfl (M.cell 2 rfl rfl) (yb rfl (yb rfl (cl 24 rfl (AE rfl rfl call36) (HB m a gx fin pl ts F y.id l1 ((BJ m.fls y.inn).map (fun u : Fl => u.id)) A A18 cA c18 _ (by first | omega | (simp <;> omega)) (by first | omega | exact AI rfl | (have := BS m.fls y.id; have := AQ m.fls y.id; have := ho.nfls; first | omega | (simp only [List.length_map]; first | omega | (have := AQ m.fls y.inn; omega) | (have := AQ m.fls ((BZ m.els y.id).getD zeroEl).id; omega)))) (by first | omega | exact AI rfl | (have := BS m.fls y.id; have := AQ m.fls y.id; have := ho.nfls; first | omega | (simp only [List.length_map]; first | omega | (have := AQ m.fls y.inn; omega) | (have := AQ m.fls ((BZ m.els y.id).getD zeroEl).id; omega)))) ((DW hA M.fr fun b off p e => (hnA b off p e).1)) (M.rdOwn 0 rfl) (nin hnA hF0) (M.notMk 0 3 rfl rfl (by decide) OL) (M.ok 3 _ rfl)) ?_)))))))))
  rintro _ w4 ⟨rfl, F24, hNw4, hqw4, hfw4⟩
  refine ⟨_, rfl, ?_⟩
  have hFw4 : ∀ g ∈ F24, g ∈ F ∨ w.heap.size ≤ g := fun g hg => (hqw4 g hg).elim (hF0 g) (fun h => .inr (Nat.le_trans M.fr.size h.1))
  have M := M.updMk 3 rfl hNw4 hqw4 hfw4
  exact A4 (C3 (Or.inr rfl) rfl ⟨rfl, GU (M.ok 3 _ rfl) hFw4 M.fr (by simp [*, CJ])⟩)
 ·have h11p := (odt (C5 h11))
  refine AN (A5 (A0 (yl rfl rfl (Blk.c ((h3.fr M.fr hn3)) 0 rfl) (yb rfl (yl rfl rfl (M.cell 1 rfl rfl) (yb rfl (yb rfl (cl 24 rfl (AE rfl rfl call36) (HB m a gx fin pl ts F y.id l1 [[40, 111, 117, 116, 41]] A (some ⟨g8, 0, none⟩) cA 1 _ (by first | omega | (simp <;> omega)) (by first | omega | exact AI rfl | (have := BS m.fls y.id; have := AQ m.fls y.id; have := ho.nfls; first | omega | (simp only [List.length_map]; first | omega | (have := AQ m.fls y.inn; omega) | (have := AQ m.fls ((BZ m.els y.id).getD zeroEl).id; omega)))) (by first | omega | exact AI rfl | (have := BS m.fls y.id; have := AQ m.fls y.id; have := ho.nfls; first | omega | (simp only [List.length_map]; first | omega | (have := AQ m.fls y.inn; omega) | (have := AQ m.fls ((BZ m.els y.id).getD zeroEl).id; omega)))) ((DW hA M.fr fun b off p e => (hnA b off p e).1)) (M.rdBlk 0 rfl rfl) (nin hnA hF0) (M.notMk 0 2 rfl rfl (by decide) IU) (M.ok 2 _ rfl)) ?_))))))))
  rintro _ w5 ⟨rfl, F24, hNw5, hqw5, hfw5⟩
  refine ⟨_, rfl, ?_⟩
  have hFw5 : ∀ g ∈ F24, g ∈ F ∨ w.heap.size ≤ g := fun g hg => (hqw5 g hg).elim (hF0 g) (fun h => .inr (Nat.le_trans M.fr.size h.1))
  have M := M.updMk 2 rfl hNw5 hqw5 hfw5
  exact A4 (C3 (Or.inr rfl) rfl ⟨rfl, GU (M.ok 2 _ rfl) hFw5 M.fr (by simp [*, sOut])⟩)
theorem nG (we : World) (m : Md) (a : MdA) (gx g3 : Nat) (fin : Int) (pl : List (List UInt8)) (ts : List Tr1) (F : List Nat) (y : El) (l1 l2 : List (List UInt8)) (A B : Option Addr) (cA cB : Nat)  (w : World) (ho : MdOk m) (hi : Ids m) (hy : y ∈ m.els) (hM : MdIn we m a) (hwe : Fr0 we w) (hFe : ∀ g ∈ F, we.heap.size ≤ g) (h3 : Blk w g3 52 [pg gx]) (hn3 : g3 ∉ F) (hts : ts.length ≤ 90000000) (hN : MkN w m a gx fin pl ts F) (hs1 : ∀ s ∈ l1, s.length ≤ 32) (hs2 : ∀ s ∈ l2, s.length ≤ 32) (hl1 : l1.length ≤ 400) (hl2 : l2.length ≤ 400) (hA : Rd w A (l1.length * 1) (AS D7 l1)) (hB : Rd w B (l2.length * 1) (AS D7 l2)) (hnA : ∀ b off p, A = some ⟨b, off, p⟩ → b ∉ F ∧ b < w.heap.size) (hnB : ∀ b off p, B = some ⟨b, off, p⟩ → b ∉ F ∧ b < w.heap.size)  :
 Calls prog 41 #[.agg y.cells.toArray, .slice A l1.length cA, .slice B l2.length cB, pg g3] w fun e w' => e = .returned (.tuple #[]) ∧ ME m a gx fin pl (ts ++ (l1.flatMap (fun x : List UInt8 => l2.map (fun b : List UInt8 => (⟨y.id ++ [32] ++ x ++ [32] ++ b, [x], [b]⟩ : Tr0)))).map (trP pl)) F w w' := by
 have hF0 : ∀ g ∈ F, g ∈ F ∨ w.heap.size ≤ g := fun _ h => .inl h
 have hnf := ho.nfls
 have hne := ho.nels
 have hyi := E0 (hi.els y hy)
 have _u := And.intro hM (And.intro hwe (And.intro hFe (And.intro hs1 (And.intro hs2 (And.intro hl1 (And.intro hl2 (And.intro hA (And.intro hB (And.intro hnA hnB)))))))))
 refine AJ (vs := [_, _, _, _]) func41 rfl ntmps41 rfl ?_
 have M : Mem w (fun k => k ∈ F) [As.mk_ m a gx fin pl ts F] w := Mem.oneMk hN
 refine A9 (A0 (B4 M (AA rfl) rfl rfl 39 rfl rfl (El.cells y) rfl fun g4 w1 hg4 M => A4 (A5 (A9 (A0 (yb rfl (ya rfl (CS rfl rfl (sl rfl)) (yb rfl (A4 (A5 (AV (CL (fun e wr mz => ∃ (i : Nat) (ts1 : List Tr1) (F1 : List Nat), e = [(2, .slice B l2.length cB), (3, pg g3), (4, pg g4), (11, .slice A l1.length cA), (12, .int .i64 ((l1.length : Nat) : Int)), (13, .int .i64 ((i : Nat) : Int))] ∧ Mem w (fun k => k ∈ F) [As.blk g4 39 (El.cells y), As.mk_ m a gx fin pl ts1 F1] wr ∧ (i ≤ l1.length) ∧ (ts1 = ts ++ ((l1.take i).flatMap (fun x : List UInt8 => l2.map (fun b : List UInt8 => (⟨y.id ++ [32] ++ x ++ [32] ++ b, [x], [b]⟩ : Tr0)))).map (trP pl)) ∧ (∀ g ∈ F1, g ∈ F ∨ w.heap.size ≤ g) ∧ (ts1.length ≤ 90000000 + i * 400) ∧ mz = l1.length - i) ⟨0, ts, F, rfl, M, Nat.zero_le _, by simp, hF0, by omega, rfl⟩ ⟨rfl, rfl, rfl, rfl, rfl, rfl, trivial⟩ ?_))))))))))))
 rintro _ w2 _ ⟨i, ts1, F1, rfl, M, hi1, hE1, hF1, hB1, rfl⟩
 refine A9 (A0 (ya rfl (CB rfl rfl rfl) (A4 (A5 (A9 (AT (b := (decide (((i : Nat) : Int) < ((l1.length : Nat) : Int)))) rfl (fun h14 => ?_) (fun h14 => ?_)))))))
 ·have h14p := (odt h14)
  refine AN (A5 (A9 (AV (A9 (A0 ?_)))))
  obtain ⟨x, hx⟩ := DA (l := l1) (i := i) (by omega)
  obtain ⟨b_x, o_x, hA_x⟩ := C7 (k := 1) (by omega) ((DW hA M.fr fun b off p e => (hnA b off p e).1)) hx
  have hxl := hs1 x (List.mem_of_getElem? hx)
  refine ya rfl (BM i hA_x rfl rfl rfl (sl rfl) (by omega)) (ya rfl (C0 rfl rfl (sc rfl) (EB GD ((DW hA M.fr fun b off p e => (hnA b off p e).1)) hA_x hx 0 rfl)) (yb rfl (A4 (A5 (A9 (A0 (yb rfl (ya rfl (CS rfl rfl (sl rfl)) (yb rfl (A4 (A5 (AV (CL (fun e wr mz => ∃ (k : Nat) (ts2 : List Tr1) (F2 : List Nat), e = [(2, .slice B l2.length cB), (3, pg g3), (4, pg g4), (8, str x), (11, .slice A l1.length cA), (12, .int .i64 ((l1.length : Nat) : Int)), (13, .int .i64 ((i : Nat) : Int)), (17, .slice B l2.length cB), (18, .int .i64 ((l2.length : Nat) : Int)), (19, .int .i64 ((k : Nat) : Int))] ∧ Mem w (fun k => k ∈ F) [As.blk g4 39 (El.cells y), As.mk_ m a gx fin pl ts2 F2] wr ∧ (k ≤ l2.length) ∧ (ts2 = ts1 ++ ((l2.take k).map (fun b : List UInt8 => (⟨y.id ++ [32] ++ x ++ [32] ++ b, [x], [b]⟩ : Tr0))).map (trP pl)) ∧ (∀ g ∈ F2, g ∈ F ∨ w.heap.size ≤ g) ∧ (ts2.length ≤ 90000000 + i * 400 + k) ∧ mz = l2.length - k) ⟨0, ts1, F1, rfl, M, Nat.zero_le _, by simp, hF1, by omega, rfl⟩ ⟨rfl, rfl, rfl, rfl, rfl, rfl, rfl, rfl, rfl, rfl, trivial⟩ ?_)))))))))))))
  rintro _ w3 _ ⟨k, ts2, F2, rfl, M, hi2, hE2, hF2, hB2, rfl⟩
  refine A9 (A0 (ya rfl (CB rfl rfl rfl) (A4 (A5 (A9 (AT (b := (decide (((k : Nat) : Int) < ((l2.length : Nat) : Int)))) rfl (fun h20 => ?_) (fun h20 => ?_)))))))
  ·have h20p := (odt h20)
   refine AN (A5 (A9 (AV (A9 (A0 ?_)))))
   obtain ⟨b, hb⟩ := DA (l := l2) (i := k) (by omega)
   obtain ⟨b_b, o_b, hA_b⟩ := C7 (k := 1) (by omega) ((DW hB M.fr fun b off p e => (hnB b off p e).1)) hb
   have hbl := hs2 b (List.mem_of_getElem? hb)
   refine ya rfl (BM k hA_b rfl rfl rfl (sl rfl) (by omega)) (ya rfl (C0 rfl rfl (sc rfl) (EB GD ((DW hB M.fr fun b off p e => (hnB b off p e).1)) hA_b hb 0 rfl)) (yb rfl (A4 (A5 (A0 (yl rfl rfl (Blk.c ((h3.fr M.fr hn3)) 0 rfl) (yb rfl (yl rfl rfl (M.cell 0 rfl rfl) (ya rfl (FE rfl rfl rfl (by first | omega | (simp only [List.length_cons, List.length_nil]; omega) | (simp only [List.length_append, List.length_cons, List.length_nil]; omega))) (yb rfl (ya rfl (FE rfl rfl rfl (by first | omega | (simp only [List.length_cons, List.length_nil]; omega) | (simp only [List.length_append, List.length_cons, List.length_nil]; omega))) (ya rfl (FE rfl rfl rfl (by first | omega | (simp only [List.length_cons, List.length_nil]; omega) | (simp only [List.length_append, List.length_cons, List.length_nil]; omega))) (yb rfl (ya rfl (FE rfl rfl rfl (by first | omega | (simp only [List.length_cons, List.length_nil]; omega) | (simp only [List.length_append, List.length_cons, List.length_nil]; omega))) (yb rfl ?_)))))))))))))))
   refine DC M (AA rfl) rfl rfl [str x] ([str x]) rfl rfl rfl rfl underlying29 CR rfl rfl (IK rfl) rfl fun g33 w4 hg33 M => yb rfl (DC M (AA rfl) rfl rfl [str b] ([str b]) rfl rfl rfl rfl underlying29 CR rfl rfl (IK rfl) rfl fun g35 w5 hg35 M => cl 36 rfl (AE rfl rfl call36) (HB m a gx fin pl ts2 F2 ((((y.id ++ [32]) ++ x) ++ [32]) ++ b) [x] [b] (some ⟨g33, 0, none⟩) (some ⟨g35, 0, none⟩) 1 1 _ (by first | omega | (simp <;> omega)) (by first | omega | exact AI rfl | (have := BS m.fls y.id; have := AQ m.fls y.id; have := ho.nfls; first | omega | (simp only [List.length_map]; first | omega | (have := AQ m.fls y.inn; omega) | (have := AQ m.fls ((BZ m.els y.id).getD zeroEl).id; omega)))) (by first | omega | exact AI rfl | (have := BS m.fls y.id; have := AQ m.fls y.id; have := ho.nfls; first | omega | (simp only [List.length_map]; first | omega | (have := AQ m.fls y.inn; omega) | (have := AQ m.fls ((BZ m.els y.id).getD zeroEl).id; omega)))) (M.rdBlk 1 rfl rfl) (M.rdBlk 0 rfl rfl) (M.notMk 1 3 rfl rfl (by decide) IU) (M.notMk 0 3 rfl rfl (by decide) IU) (M.ok 3 _ rfl)) ?_)
   rintro _ w6 ⟨rfl, F36, hNw6, hqw6, hfw6⟩
   refine ⟨_, rfl, ?_⟩
   have hFw6 : ∀ g ∈ F36, g ∈ F ∨ w.heap.size ≤ g := fun g hg => (hqw6 g hg).elim (hF2 g) (fun h => .inr (Nat.le_trans M.fr.size h.1))
   have M := M.updMk 3 rfl hNw6 hqw6 hfw6
   refine A4 (AC (A5 (A0 (ya rfl (CI rfl rfl rfl (by omega)) (yb rfl (A4 (BF [(2, .slice B l2.length cB), (3, pg g3), (4, pg g4), (8, str x), (11, .slice A l1.length cA), (12, .int .i64 ((l1.length : Nat) : Int)), (13, .int .i64 ((i : Nat) : Int)), (17, .slice B l2.length cB), (18, .int .i64 ((l2.length : Nat) : Int)), (19, .int .i64 (((k + 1) : Nat) : Int))] (l2.length - (k + 1)) ⟨k + 1, ts2 ++ [trP pl ⟨((((y.id ++ [32]) ++ x) ++ [32]) ++ b), [x], [b]⟩], F36, rfl, (M.pk [2, 3]), ?_, ?_, ?_, ?_, rfl⟩ (by first | omega | (simp <;> omega)) ⟨rfl, rfl, rfl, rfl, rfl, rfl, rfl, rfl, rfl, rfl, trivial⟩)))))))
   ·omega
   ·rw [hE2, B3 hb, List.map_append, List.map_append, List.append_assoc]; rfl
   ·assumption
   ·first | omega | (simp only [List.length_append, List.length_cons, List.length_nil]; omega)
  ·have h20p := (odf h20)
   refine C2 (AG (AG (B5 (AC (A5 (A0 (ya rfl (CI rfl rfl rfl (by omega)) (yb rfl (A4 (BF [(2, .slice B l2.length cB), (3, pg g3), (4, pg g4), (11, .slice A l1.length cA), (12, .int .i64 ((l1.length : Nat) : Int)), (13, .int .i64 (((i + 1) : Nat) : Int))] (l1.length - (i + 1)) ⟨i + 1, ts2, F2, rfl, M, ?_, ?_, ?_, ?_, rfl⟩ (by first | omega | (simp <;> omega)) ⟨rfl, rfl, rfl, rfl, rfl, rfl, trivial⟩))))))))))
   ·omega
   ·obtain rfl : k = l2.length := by omega
    rw [hE2, hE1, B3 hx, List.take_length, List.flatMap_append, List.map_append, List.append_assoc]; simp
   ·exact hF2
   ·omega
 ·have h14p := (odf h14)
  refine C2 (AG (AG (B5 (C3 (Or.inr rfl) rfl ?_))))
  obtain rfl : i = l1.length := by omega
  rw [List.take_length] at hE1
  exact ⟨rfl, GU (M.ok 1 _ rfl) hF1 M.fr hE1⟩
theorem j1 (we : World) (m : Md) (a : MdA) (gx g3 : Nat) (fin : Int) (pl : List (List UInt8)) (ts : List Tr1) (F : List Nat) (y : El) (l1 l2 : List (List UInt8)) (A B : Option Addr) (cA cB : Nat)  (g5 : Nat) (w : World) (h5 : Blk w g5 62 [.func (.func 35) #[] #[pg g3]]) (hn5 : g5 ∉ F) (ho : MdOk m) (hi : Ids m) (hy : y ∈ m.els) (hM : MdIn we m a) (hwe : Fr0 we w) (hFe : ∀ g ∈ F, we.heap.size ≤ g) (h3 : Blk w g3 52 [pg gx]) (hn3 : g3 ∉ F) (hts : ts.length ≤ 90000000) (hN : MkN w m a gx fin pl ts F) (hs1 : ∀ s ∈ l1, s.length ≤ 32) (hs2 : ∀ s ∈ l2, s.length ≤ 32) (hl1 : l1.length ≤ 400) (hl2 : l2.length ≤ 400) (hA : Rd w A (l1.length * 1) (AS D7 l1)) (hB : Rd w B (l2.length * 1) (AS D7 l2)) (hnA : ∀ b off p, A = some ⟨b, off, p⟩ → b ∉ F ∧ b < w.heap.size) (hnB : ∀ b off p, B = some ⟨b, off, p⟩ → b ∉ F ∧ b < w.heap.size)  :
 Calls prog 39 #[.agg y.cells.toArray, .slice A l1.length cA, .slice B l2.length cB, pg g3, pg g5] w fun e w' => e = .returned (.tuple #[]) ∧ ME m a gx fin pl (ts ++ (if (EV m y.id).2 = true then [⟨y.id ++ [33], [(EV m y.id).1], l2⟩] else IZ y l1 l2).map (trP pl)) F w w' := by
 have hF0 : ∀ g ∈ F, g ∈ F ∨ w.heap.size ≤ g := fun _ h => .inl h
 have hnf := ho.nfls
 have hne := ho.nels
 have hyi := E0 (hi.els y hy)
 have _u := And.intro hM (And.intro hwe (And.intro hFe (And.intro hs1 (And.intro hs2 (And.intro hl1 (And.intro hl2 (And.intro hA (And.intro hB (And.intro hnA hnB)))))))))
 refine AJ (vs := [_, _, _, _, _]) func39 rfl ntmps39 rfl ?_
 have M : Mem w (fun k => k ∈ F) [As.mk_ m a gx fin pl ts F] w := Mem.oneMk hN
 refine A9 (A0 (B4 M (AA rfl) rfl rfl 39 rfl rfl (El.cells y) rfl fun g5 w1 hg5 M => A4 (A5 (A9 (A9 (DB 12 (fun w' => Mem w (fun k => k ∈ F) [As.blk g5 39 (El.cells y), As.mk_ m a gx fin pl ts F] w') DV ?_))))))
 have M := M.drew
 refine ol 0 12 rfl rfl rfl M (fun _ M => (Blk.c ((h3.fr M.fr hn3)) 0 rfl)) (oc 1 12 rfl rfl M (oc 2 12 rfl rfl M (oa 3 12 rfl rfl M (fun _ M => AU (xs := Md.cells m a) rfl rfl (MkN.rdm (M.ok 1 _ rfl)) underlying26 rfl BC) (oc 4 12 rfl rfl M (ol 5 12 rfl rfl rfl M (fun _ M => (M.cell 0 rfl rfl)) (BY 6 (some 17) (by kernel_rfl) rfl (AA rfl) rfl rfl (AE rfl rfl call34) (SR m a y.id _ ho (hM.fr0 (D9 hwe M.fr hFe))) ?_))))))
 rintro _ w2 ⟨rfl, hfw2⟩
 refine ⟨_, rfl, fun _ => M.step hfw2, ?_⟩
 have M := M.step hfw2
 refine oc 7 12 rfl rfl M (oc 8 12 rfl rfl M (oc 9 12 rfl rfl M (oc 10 12 rfl rfl M (oc 11 12 rfl rfl M (BN (by kernel_rfl) (A5 (A9 (A0 (yb rfl (A4 (A5 (AT (b := (EV m y.id).2) rfl (fun h20 => ?_) (fun h20 => ?_)))))))))))))
 ·refine A9 (A0 (yl rfl rfl (Blk.c ((h3.fr M.fr hn3)) 0 rfl) (yb rfl (yl rfl rfl (M.cell 0 rfl rfl) (ya rfl (FE rfl rfl rfl (by first | omega | (simp only [List.length_cons, List.length_nil]; omega) | (simp only [List.length_append, List.length_cons, List.length_nil]; omega))) (yb rfl (DC M (AA rfl) rfl rfl [str ((EV m y.id).1)] ([str ((EV m y.id).1)]) rfl rfl rfl rfl underlying29 CR rfl rfl (IK rfl) rfl fun g26 w3 hg26 M => yb rfl (cl 28 rfl (AE rfl rfl call36) (HB m a gx fin pl ts F (y.id ++ [33]) [(EV m y.id).1] l2 (some ⟨g26, 0, none⟩) B 1 cB _ (by first | omega | (simp <;> omega)) (by first | omega | exact AI rfl | (have := BS m.fls y.id; have := AQ m.fls y.id; have := ho.nfls; first | omega | (simp only [List.length_map]; first | omega | (have := AQ m.fls y.inn; omega) | (have := AQ m.fls ((BZ m.els y.id).getD zeroEl).id; omega)))) (by first | omega | exact AI rfl | (have := BS m.fls y.id; have := AQ m.fls y.id; have := ho.nfls; first | omega | (simp only [List.length_map]; first | omega | (have := AQ m.fls y.inn; omega) | (have := AQ m.fls ((BZ m.els y.id).getD zeroEl).id; omega)))) (M.rdBlk 0 rfl rfl) ((DW hB M.fr fun b off p e => (hnB b off p e).1)) (M.notMk 0 2 rfl rfl (by decide) IU) (nin hnB hF0) (M.ok 2 _ rfl)) ?_))))))))
  rintro _ w4 ⟨rfl, F28, hNw4, hqw4, hfw4⟩
  refine ⟨_, rfl, ?_⟩
  have hFw4 : ∀ g ∈ F28, g ∈ F ∨ w.heap.size ≤ g := fun g hg => (hqw4 g hg).elim (hF0 g) (fun h => .inr (Nat.le_trans M.fr.size h.1))
  have M := M.updMk 2 rfl hNw4 hqw4 hfw4
  exact A4 (A5 (AF (AB (C3 (Or.inl rfl) rfl ⟨rfl, GU (M.ok 2 _ rfl) hFw4 M.fr (by simp [*])⟩))))
 ·refine AN (A5 (A0 (yl rfl rfl (Blk.c ((h5.fr M.fr hn5)) 0 rfl) (ya rfl (AU (xs := El.cells y) rfl rfl (M.rdBlk 0 rfl rfl) underlying39 rfl AP) (yb rfl (yb rfl (cl 33 rfl (BK rfl rfl rfl call35) (VU we m a gx g3 fin pl ts F y l1 l2 A B cA cB _ ho hi hy hM (D9 hwe M.fr hFe) (fun g hg => (hF0 g hg).elim (hFe g) (fun h => Nat.le_trans hwe.size h)) (h3.fr M.fr hn3) (fun h => (hF0 g3 h).elim hn3 (fun h2 => by have := h3.lt; omega)) hts (M.ok 1 _ rfl) hs1 hs2 hl1 hl2 (DW hA M.fr fun b off p e => (hnA b off p e).1) (DW hB M.fr fun b off p e => (hnB b off p e).1) (vU hnA hF0 M.fr.size) (vU hnB hF0 M.fr.size)) ?_)))))))
  rintro _ w5 ⟨rfl, F33, hNw5, hqw5, hfw5⟩
  refine ⟨_, rfl, ?_⟩
  have hFw5 : ∀ g ∈ F33, g ∈ F ∨ w.heap.size ≤ g := fun g hg => (hqw5 g hg).elim (hF0 g) (fun h => .inr (Nat.le_trans M.fr.size h.1))
  have M := M.updMk 1 rfl hNw5 hqw5 hfw5
  exact A4 (C3 (Or.inr rfl) rfl ⟨rfl, GU (M.ok 1 _ rfl) hFw5 M.fr (by simp [*])⟩)
end Go.Proofs.YtdaihdknnlphkaaGreatDoor
