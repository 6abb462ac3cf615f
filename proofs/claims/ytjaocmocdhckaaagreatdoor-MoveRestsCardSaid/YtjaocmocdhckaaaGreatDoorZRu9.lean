/- Lemmas that the last text rests on. Condition: each says its own. -/
import Derived.Test.YtjaocmocdhckaaaGreatDoorZRu0
import Derived.Test.YtjaocmocdhckaaaGreatDoorZb6
set_option maxHeartbeats 16000000
set_option maxRecDepth 100000
namespace Go.Proofs.YtjaocmocdhckaaaGreatDoor
open Go.RowKit
open Tryz
theorem S3 (l : List El) (x : El) (k : List UInt8) : BK (l ++ [x]) k = match BK l k with
 | some y => some y
 | none => if x.id = k then some x else none := by
 induction l with
 | nil => rfl
 | cons y r ih =>
  rw [List.cons_append, BK, BK]
  by_cases h : y.id = k
  ·rw [if_pos h, if_pos h]
  ·rw [if_neg h, if_neg h]; exact ih
section
variable {L : List (List UInt8 × Value)} {l l' : List El} {x : El} (hL : ∀ k, CU L k = (BK l k).map elV)
include hL
theorem elG (k : List UInt8) : (CU L k).getD (.agg zeroEl.cells.toArray) = .agg ((BK l k).getD zeroEl).cells.toArray := by rw [hL]; cases BK l k <;> rfl
theorem elI (k : List UInt8) : (CU L k).isSome = (BK l k).isSome := by rw [hL]; cases BK l k <;> rfl
theorem jT (hl : l' = l ++ [x]) (h : (!(BK l x.id).isSome) = true) : ∀ k, CU (DN L x.id (.agg (El.cells x).toArray)) k = (BK l' k).map elV := fun k => by
 have hn : BK l x.id = none := by
  cases hq : BK l x.id with
  | none => rfl
  | some y => rw [hq] at h; cases h
 rw [G7, hl, S3]
 by_cases hk : k = x.id
 ·subst hk; rw [if_pos rfl, hn]; simp [elV]
 ·rw [if_neg hk, hL]
  cases BK l k with
  | some y => rfl
  | none => rw [if_neg (fun e => hk e.symm)]
theorem oV (hl : l' = l ++ [x]) (h : (!(BK l x.id).isSome) = false) : ∀ k, CU L k = (BK l' k).map elV := fun k => by
 rw [hL, hl, S3]
 cases hq : BK l k with
 | some y => rfl
 | none =>
  have hk : ¬ x.id = k := fun e => by rw [e, hq] at h; cases h
  rw [if_neg hk]
end
theorem cS (l : List Fl) (i : Nat) (k : List UInt8) : (EC (l.take i) k).length ≤ l.length := Nat.le_trans (GH _ _) (by rw [List.length_take]; omega)
theorem YA (l : List Fl) (i : Nat) (k : List UInt8) : (CE (l.take i) k).length ≤ l.length := Nat.le_trans (EM _ _) (by rw [List.length_take]; omega)
section
variable {l : List Fl} {j : Nat} {f : Fl} {k : List UInt8} (hf : l[j]? = some f)
include hf
theorem j0 : EC (l.take (j + 1)) f.tg = EC (l.take j) f.tg ++ [f] := by
 rw [B4 hf]; unfold EC; rw [List.filter_append]; simp
theorem nO (hk : k ≠ f.tg) : EC (l.take (j + 1)) k = EC (l.take j) k := by
 rw [B4 hf]; unfold EC; rw [List.filter_append]; simp [Ne.symm hk]
theorem cA : CE (l.take (j + 1)) f.frm = CE (l.take j) f.frm ++ [f] := by
 rw [B4 hf]; unfold CE; rw [List.filter_append]; simp
theorem gZ (hk : k ≠ f.frm) : CE (l.take (j + 1)) k = CE (l.take j) k := by
 rw [B4 hf]; unfold CE; rw [List.filter_append]; simp [Ne.symm hk]
end
section
variable {w0 w w1 : World} {S : Nat → Prop} {L : List As}
theorem Mem.toFam {α : Type} (M : Mem w0 S L w) (i : Nat) {g : Nat} (hi : L[i]? = some (As.mp g [])) (e : TypeId) (size : Nat) (cells : α → List Value) : Mem w0 S (L.set i (As.fam w0.heap.size e size cells g [] (fun _ => []) (fun _ => False) [])) w :=
 M.upd i hi Fr.refl _ (Fam.new (M.mp i hi) _ _ _ _) (fun _ hg' => .inl hg')
theorem Mem.appOwn (M : Mem w0 S L w) (i : Nat) {base el size n n' : Nat} {v v' : Value} {xs xs' : List Value} (hi : L[i]? = some (As.own base el size v n xs)) (ho : w1.ownsRow base el size v' n' xs') (h2 : w.grownBy w1 v.ownBlock) (h3 : v'.ownBlock = v.ownBlock ∨ v'.ownBlock = some w.heap.size) : Mem w0 S (L.set i (As.own base el size v' n' xs')) w1 := by
 refine M.upd i hi ?_ _ ho ?_
 ·refine ⟨h2.os, h2.tape, h2.output, h2.size, fun g hg hn => h2.block g hg ?_⟩
  intro e
  exact hn (by simp [As.own, ← e])
 ·intro g hg
  rcases h3 with h | h
  ·left; simpa [As.own, h] using hg
  ·right
   have hg' : g = w.heap.size := by simpa [As.own, h, eq_comm] using hg
   have := (NN ho g hg).2
   omega
end
def N0 : Value → Option Addr
 | .slice A _ _ => A
 | _ => none
def Y4 : Value → Nat
 | .slice _ _ c => c
 | _ => 0
theorem Fam.val {α : Type} {w : World} {base size g : Nat} {e : TypeId} {cells : α → List Value} {L : List (List UInt8 × Value)} {rows : List UInt8 → List α} {F : List Nat} (h : Fam w base e size cells g L rows (fun _ => False) F) (k : List UInt8) :
 (CU L k).getD (.slice none 0 0) = .slice (N0 (FK L k)) (rows k).length (Y4 (FK L k)) ∧ Rd w (N0 (FK L k)) ((rows k).length * size) (AH cells (rows k)) := by
 obtain ⟨ho, _⟩ := h.row k (fun hh => hh)
 obtain ⟨A, C, hv, _⟩ := E8 ho
 have hv' : (CU L k).getD (.slice none 0 0) = .slice A (rows k).length C := hv
 rw [hv', hv]
 rw [hv] at ho
 exact ⟨rfl, NM ho⟩
structure IxN (w : World) (m : Md) (a : MdA) (x : IxA) (gx : Nat) (F : List Nat) : Prop where
 blk : Blk w gx 142 (Ix.cells m a x)
 E : Mp w x.gE x.LE
 I : Mp w x.gI x.LI
 O : Mp w x.gO x.LO
 getE : ∀ k, (CU x.LE k).getD (.agg zeroEl.cells.toArray) = .agg ((BK m.els k).getD zeroEl).cells.toArray
 isE : ∀ k, (CU x.LE k).isSome = (BK m.els k).isSome
 getI : ∀ k, (CU x.LI k).getD (.slice none 0 0) = .slice (x.iA k) (EC m.fls k).length (x.iC k)
 getO : ∀ k, (CU x.LO k).getD (.slice none 0 0) = .slice (x.oA k) (CE m.fls k).length (x.oC k)
 rdI : ∀ k, Rd w (x.iA k) ((EC m.fls k).length * 4) (AH Fl.cells (EC m.fls k))
 rdO : ∀ k, Rd w (x.oA k) ((CE m.fls k).length * 4) (AH Fl.cells (CE m.fls k))
 inF : gx ∈ F ∧ x.gE ∈ F ∧ x.gI ∈ F ∧ x.gO ∈ F
 inI : ∀ k b off p, x.iA k = some ⟨b, off, p⟩ → b ∈ F
 inO : ∀ k b off p, x.oA k = some ⟨b, off, p⟩ → b ∈ F
theorem HV {w w' : World} {A : Option Addr} {n : Nat} {xs : List Value} {F : List Nat} (h : Rd w A n xs) (hk : ∀ g ∈ F, g < w.heap.size → w'.heap[g]? = w.heap[g]?) (hA : ∀ b off p, A = some ⟨b, off, p⟩ → b ∈ F) : Rd w' A n xs := by
 refine ⟨h.1, fun hn => ?_⟩
 obtain ⟨b, off, e, hc⟩ := h.2 hn
 refine ⟨b, off, e, fun j u hu => ?_⟩
 have h1 := hc j u hu
 have hl := World.block_lt_of_cell? w _ h1
 have h2 := hk b (hA b off none e) hl
 rw [← h1]
 unfold World.cell?
 simp only [h2]
theorem JR {w w' : World} {g : Nat} {L : List (List UInt8 × Value)} {F : List Nat} (h : Mp w g L) (hk : ∀ g ∈ F, g < w.heap.size → w'.heap[g]? = w.heap[g]?) (hg : g ∈ F) : Mp w' g L := by
 obtain ⟨es, cl, h1, h2⟩ := h
 exact ⟨es, cl, (hk g hg (Array.getElem?_eq_some_iff.1 h1).1).trans h1, h2⟩
theorem IxN.keep {w w' : World} {m : Md} {a : MdA} {x : IxA} {gx : Nat} {F : List Nat} (hk : ∀ g ∈ F, g < w.heap.size → w'.heap[g]? = w.heap[g]?) (h : IxN w m a x gx F) : IxN w' m a x gx F :=
 ⟨(hk gx h.inF.1 h.blk.lt).trans h.blk, JR h.E hk h.inF.2.1, JR h.I hk h.inF.2.2.1, JR h.O hk h.inF.2.2.2, h.getE, h.isE, h.getI, h.getO, fun k => HV (h.rdI k) hk (h.inI k), fun k => HV (h.rdO k) hk (h.inO k), h.inF, h.inI, h.inO⟩
def As.ixp (m : Md) (a : MdA) (x : IxA) (gx : Nat) (F : List Nat) : As := ⟨F, fun w => IxN w m a x gx F, fun h hb => hb.keep h⟩
theorem IxN.at {w : World} {m : Md} {a : MdA} {x : IxA} {gx : Nat} {F : List Nat} (h : IxN w m a x gx F) (hM : MdIn w m a) : IxAt w m a x gx :=
 ⟨hM, h.blk, h.E, h.I, h.O, h.getE, h.isE, h.getI, h.getO, h.rdI, h.rdO⟩
theorem Fam.blk {α : Type} {w : World} {base size g : Nat} {e : TypeId} {cells : α → List Value} {L : List (List UInt8 × Value)} {rows : List UInt8 → List α} {F : List Nat} (h : Fam w base e size cells g L rows (fun _ => False) F) (k : List UInt8) {b : Nat} (hA : (N0 (FK L k)).map (fun a => a.block) = some b) : b ∈ F := by
 obtain ⟨ho, hF⟩ := h.row k (fun hh => hh)
 obtain ⟨A, C, hv, _⟩ := E8 ho
 refine hF b ?_
 rw [hv] at hA ⊢
 cases A with
 | none => cases hA
 | some q => simpa [N0, Value.ownBlock] using hA
theorem WO {m : Md} {a : MdA} {w w' : World} {g15 g13 g12 g11 : Nat} {L LI LO : List (List UInt8 × Value)} {FI FO : List Nat} {Ls : List As}
 (M : Mem w B0 (As.blk g15 142 [str m.id, str m.nm, .slice a.V m.vars.length a.vc, .slice a.E m.els.length a.ec, .slice a.F m.fls.length a.fc, .map (some g11), .map (some g12), .map (some g13)] :: As.fam w.heap.size 72 4 Fl.cells g13 LO (CE m.fls) (fun _ => False) FO :: As.fam w.heap.size 72 4 Fl.cells g12 LI (EC m.fls) (fun _ => False) FI :: As.mp g11 L :: Ls) w')
 (hL : ∀ k, CU L k = (BK m.els k).map elV) :
 ∃ ix gx F, Ending.returned (pg g15) = .returned (pg gx) ∧ IxN w' m a ix gx F ∧ (∀ g ∈ F, w.heap.size ≤ g ∧ g < w'.heap.size) ∧ Fr0 w w' := by
 have hO : Fam w' w.heap.size 72 4 Fl.cells g13 LO (CE m.fls) (fun _ => False) FO := M.ok 1 _ rfl
 have hI : Fam w' w.heap.size 72 4 Fl.cells g12 LI (EC m.fls) (fun _ => False) FI := M.ok 2 _ rfl
 refine ⟨⟨g11, g12, g13, L, LI, LO, fun k => N0 (FK LI k), fun k => Y4 (FK LI k), fun k => N0 (FK LO k), fun k => Y4 (FK LO k)⟩, g15, g15 :: g11 :: ((g12 :: FI) ++ (g13 :: FO)), rfl,
  ⟨M.blk 0 rfl, M.mp 3 rfl, hI.map, hO.map, elG hL, elI hL, fun k => (hI.val k).1, fun k => (hO.val k).1, fun k => (hI.val k).2, fun k => (hO.val k).2, ⟨by simp, by simp, by simp, by simp⟩, ?_, ?_⟩, ?_, M.fr⟩
 ·intro k b off p hA
  have := hI.blk k (b := b) (by simp only at hA; rw [hA]; rfl)
  simp [this]
 ·intro k b off p hA
  have := hO.blk k (b := b) (by simp only at hA; rw [hA]; rfl)
  simp [this]
 ·intro g hg
  rcases List.mem_cons.1 hg with rfl | hg
  ·exact M.new0 0 rfl _ (by simp [As.blk])
  ·rcases List.mem_cons.1 hg with rfl | hg
   ·exact M.new0 3 rfl _ (by simp [As.mp])
   ·rcases List.mem_append.1 hg with hg | hg
    ·exact M.new0 2 rfl g hg
    ·exact M.new0 1 rfl g hg
theorem LL (c0_0 c0_1 c0_2 c0_3 c0_4 : Value) (a1 : Option Nat) (a2 : Option Nat) (a3 : Option Nat) : prog.built 142 [(0, .agg #[c0_0, c0_1, c0_2, c0_3, c0_4]), (1, .map a1), (2, .map a2), (3, .map a3)] = some #[c0_0, c0_1, c0_2, c0_3, c0_4, .map a1, .map a2, .map a3] := by kernel_rfl
theorem K1 : (prog.info? 72).map (fun i => (i.zero, i.size, i.bytes)) = some (some (.agg #[str [], str [], str [], str []]), 4, 64) := by kernel_rfl
theorem KY : (prog.info? 72).map (fun i => (i.zero, i.size)) = some (some (.agg #[str [], str [], str [], str []]), 4) := by kernel_rfl
theorem zr_sl_api_Flow : (prog.info? 24).map (·.zero) = some (some (.slice none 0 0)) := by kernel_rfl
theorem RU (m : Md) (a : MdA) (w : World) (ho : MdOk m) (hM : MdIn w m a) :
 Calls prog 35 #[.agg (Md.cells m a).toArray] w fun e w' => ∃ ix gx F, e = .returned (pg gx) ∧ IxN w' m a ix gx F ∧ (∀ g ∈ F, w.heap.size ≤ g ∧ g < w'.heap.size) ∧ Fr0 w w' := by
 have hne := ho.nels
 have hnf := ho.nfls
 refine C5 func35 ntmps35 rfl fun M => srg (CR M rfl rfl fun g1 w1 hg1 M => AY rfl (srg (CW M 0 rfl rfl underlying26 C0 rfl (ID M (AA rfl) rfl rfl rfl fun g11 w2 hg11 M => ID M (AA rfl) rfl rfl rfl fun g12 w3 hg12 M => ID M (AA rfl) rfl rfl rfl ?_))))
 intro g13 w4 hg13 M
 refine ya rfl (BA (parts := [(0, _), (1, _), (2, _), (3, _)]) rfl rfl (LL _ _ _ _ _ _ _ _)) (E3 M (AA rfl) rfl rfl 142 rfl rfl ([str m.id, str m.nm, .slice a.V m.vars.length a.vc, .slice a.E m.els.length a.ec, .slice a.F m.fls.length a.fc, .map (some g11), .map (some g12), .map (some g13)]) rfl fun g15 w5 hg15 M => AY rfl (AF (AQ rfl (BC M 4 rfl rfl rfl (ya rfl (C3 rfl rfl (sl rfl)) (AY rfl (AS ?_)))))))
 refine flp [18, 17, 3, 1] (fun ze e wr mz => ∃ (i : Nat) (L : List (List UInt8 × Value)), e = (19, AJ ((i : Nat) : Int)) :: ze ∧ Mem w B0 [As.blk g15 142 [str m.id, str m.nm, .slice a.V m.vars.length a.vc, .slice a.E m.els.length a.ec, .slice a.F m.fls.length a.fc, .map (some g11), .map (some g12), .map (some g13)], As.mp g13 [], As.mp g12 [], As.mp g11 L, As.blk g1 26 (Md.cells m a)] wr ∧ (i ≤ m.els.length) ∧ (∀ k, CU L k = (BK (m.els.take i) k).map elV) ∧ mz = m.els.length - i) ⟨0, [], rfl, M, Nat.zero_le _, fun _ => rfl, rfl⟩ ?_
 rintro _ w6 _ ⟨i, L, rfl, M, hi, hL, rfl⟩
 refine srg (CF rfl rfl (nq (AF (AL rfl (fun h20 => ?_) (fun h20 => ?_)))))
 ·have h20p := (odt h20)
  refine AI (AD (AF (AS (srg ?_))))
  obtain ⟨x, hx⟩ := CC (l := m.els) (i := i) AM
  obtain ⟨b_x, o_x, hA_x⟩ := BI (k := 11) AM (M.rd hM.els) hx
  refine ya rfl (B1 i hA_x rfl rfl rfl (sl rfl) AM) (ya rfl (AU rfl rfl (BV El.len (M.rd hM.els) hA_x hx) underlying69 rfl B2) (DC M rfl B6 fun g5 w7 hg5 M => C4 M 0 rfl rfl B2 rfl fun w8 M => nq (AF (CV 13 (fun w' => Mem w B0 [As.blk g5 69 (El.cells x), As.blk g15 142 [str m.id, str m.nm, .slice a.V m.vars.length a.vc, .slice a.E m.els.length a.ec, .slice a.F m.fls.length a.fc, .map (some g11), .map (some g12), .map (some g13)], As.mp g13 [], As.mp g12 [], As.mp g11 L, As.blk g1 26 (Md.cells m a)] w') CZ ?_))))
  have M := M.drew
  refine oc 0 13 rfl rfl M (oc 1 13 rfl rfl M (oc 2 13 rfl rfl M (ol 3 13 rfl rfl rfl M (fun _ M => (M.cell 1 rfl rfl)) (oc 4 13 rfl rfl M (ol 5 13 rfl rfl rfl M (fun _ M => (M.cell 0 rfl rfl)) (oa 6 13 rfl rfl M (fun _ M => E6 rfl rfl rfl underlying62 underlying9 B6 (M.mp 4 rfl) (elG hL _) (elI hL _)) (oc 7 13 rfl rfl M (oc 8 13 rfl rfl M (oc 9 13 rfl rfl M (fon M 10 6 rfl rfl B6 fun g6 w9 hg6 M => fop M 11 0 rfl rfl rfl B2 rfl (·.drop 1) fun w10 M => oc 12 13 rfl rfl (M.drop 1) (fdn (AD (AF ?_)))))))))))))
  refine AK (yb rfl (AY rfl (AL rfl (fun h34 => ?_) (fun h34 => ?_))))
  ·have h34p := (CK h34)
   refine DP 7 CZ gkr ?_
   have M := M.drew
   refine sb rfl (sb rfl (sb rfl (FL M 2 rfl rfl rfl (sb rfl (FL M 1 rfl rfl rfl (sa rfl (AU (xs := El.cells x) rfl rfl (M.rdBlk 1 rfl rfl) underlying69 rfl B2) (CS (FZ M 5 (AA rfl) rfl rfl rfl rfl rfl underlying62 underlying9 rfl fun w11 M => AR (AE (AD (AK (ya rfl (BO rfl rfl rfl AM) (yb rfl ?_)))))))))))))
   refine AR (fag ⟨i + 1, DN L x.id (.agg (El.cells x).toArray), rfl, (M.pk [2, 3, 4, 5, 6]), ?_, ?_, rfl⟩)
   ·omega
   ·first
     | exact jT hL (B4 hx) h34
     | exact oV hL (B4 hx) h34
  ·have h34p := (BQ h34)
   refine AI (AE (AD (AK (ya rfl (BO rfl rfl rfl AM) (yb rfl (AR (fag ⟨i + 1, L, rfl, (M.pk [2, 3, 4, 5, 6]), ?_, ?_, rfl⟩)))))))
   ·omega
   ·first
     | exact jT hL (B4 hx) h34
     | exact oV hL (B4 hx) h34
 ·have h20p := (odf h20)
  refine BF (AG (AG ?_))
  have hiE : i = m.els.length := by omega
  rw [hiE, List.take_length] at hL
  refine AV (AD (AF (AQ rfl (BC M 4 rfl rfl rfl (ya rfl (C3 rfl rfl (sl rfl)) (AY rfl (AS ?_)))))))
  have M := M.toFam 2 rfl 72 4 Fl.cells
  have M := M.toFam 1 rfl 72 4 Fl.cells
  refine flp [45, 44, 3] (fun ze e wr mz => ∃ (j : Nat) (LI : List (List UInt8 × Value)) (FI : List Nat) (LO : List (List UInt8 × Value)) (FO : List Nat), e = (46, AJ ((j : Nat) : Int)) :: ze ∧ Mem w B0 [As.blk g15 142 [str m.id, str m.nm, .slice a.V m.vars.length a.vc, .slice a.E m.els.length a.ec, .slice a.F m.fls.length a.fc, .map (some g11), .map (some g12), .map (some g13)], As.fam w.heap.size 72 4 Fl.cells g13 LO (CE (m.fls.take j)) (fun _ => False) FO, As.fam w.heap.size 72 4 Fl.cells g12 LI (EC (m.fls.take j)) (fun _ => False) FI, As.mp g11 L, As.blk g1 26 (Md.cells m a)] wr ∧ (j ≤ m.fls.length) ∧ mz = m.fls.length - j) ⟨0, [], [], [], [], rfl, M, Nat.zero_le _, rfl⟩ ?_
  rintro _ w12 _ ⟨j, LI, FI, LO, FO, rfl, M, hj, rfl⟩
  refine srg (CF rfl rfl (nq (AF (AL rfl (fun h47 => ?_) (fun h47 => ?_)))))
  ·have h47p := (odt h47)
   refine AI (AD (AF (AS (srg ?_))))
   obtain ⟨f, hf⟩ := CC (l := m.fls) (i := j) AM
   obtain ⟨b_f, o_f, hA_f⟩ := BI (k := 4) AM (M.rd hM.fls) hf
   refine ya rfl (B1 j hA_f rfl rfl rfl (sl rfl) AM) (ya rfl (AU rfl rfl (BV Fl.len (M.rd hM.fls) hA_f hf) underlying72 rfl D3) (DC M rfl FF fun g9 w13 hg9 M => C4 M 0 rfl rfl D3 rfl fun w14 M => nq (AF ?_)))
   obtain ⟨ARI, CRI, F1I, hvI, M⟩ := Mem.famTake (M.pk [3, 0, 1, 2, 4, 5]) f.tg
   have hbI : (EC (m.fls.take j) f.tg).length ≤ m.fls.length := cS _ _ _
   refine CV 16 (fun w' => Mem w B0 [As.fam w.heap.size 72 4 Fl.cells g12 LI (EC (m.fls.take j)) (fun k => k = f.tg) F1I, As.blk g9 72 (Fl.cells f), As.blk g15 142 [str m.id, str m.nm, .slice a.V m.vars.length a.vc, .slice a.E m.els.length a.ec, .slice a.F m.fls.length a.fc, .map (some g11), .map (some g12), .map (some g13)], As.fam w.heap.size 72 4 Fl.cells g13 LO (CE (m.fls.take j)) (fun _ => False) FO, As.mp g11 L, As.blk g1 26 (Md.cells m a)] w') CZ ?_
   have M := M.drew
   refine oc 0 16 rfl rfl (M.pk [1, 2, 3, 4, 5, 6]) (oc 1 16 rfl rfl (M.pk [1, 2, 3, 4, 5, 6]) (oc 2 16 rfl rfl (M.pk [1, 2, 3, 4, 5, 6]) (ol 3 16 rfl rfl rfl (M.pk [1, 2, 3, 4, 5, 6]) (fun _ M => (M.cell 2 rfl rfl)) (oc 4 16 rfl rfl (M.pk [1, 2, 3, 4, 5, 6]) (ol 5 16 rfl rfl rfl (M.pk [1, 2, 3, 4, 5, 6]) (fun _ M => (M.cell 1 rfl rfl)) (oc 6 16 rfl rfl (M.pk [1, 2, 3, 4, 5, 6]) (oc 7 16 rfl rfl (M.pk [1, 2, 3, 4, 5, 6]) (oc 8 16 rfl rfl (M.pk [1, 2, 3, 4, 5, 6]) (ol 9 16 rfl rfl rfl (M.pk [1, 2, 3, 4, 5, 6]) (fun _ M => (M.cell 2 rfl rfl)) (oc 10 16 rfl rfl (M.pk [1, 2, 3, 4, 5, 6]) (ol 11 16 rfl rfl rfl (M.pk [1, 2, 3, 4, 5, 6]) (fun _ M => (M.cell 1 rfl rfl)) (oa 12 16 rfl rfl (M.pk [1, 2, 3, 4, 5, 6]) (fun _ M => BT rfl rfl rfl underlying140 underlying9 zr_sl_api_Flow (M.famMp 0 rfl) hvI) (oa 13 16 rfl rfl (M.pk [1, 2, 3, 4, 5, 6]) (fun _ M => AU (xs := Fl.cells f) rfl rfl (M.rdBlk 1 rfl rfl) underlying72 rfl D3) (BB 14 (some 64) gkr rfl (AA rfl) rfl rfl (fun ρ hρ => DR [.agg (Fl.cells f).toArray] _ hρ rfl rfl rfl rfl underlying24 KY BU BU (HE rfl)) ?_))))))))))))))
   rintro _ w15 ⟨g64, rfl, hg64, hq64, hb64, hfw15⟩
   replace hb64 : Blk w15 g64 72 ((Fl.cells f)) := hb64
   refine ⟨fun _ => (M.pk [1, 2, 3, 4, 5, 6]).step hfw15, ?_⟩
   have M := M.push hfw15 _ hb64 (EB hg64 hq64)
   replace M : Mem w B0 (As.blk g64 72 ((Fl.cells f)) :: _) w15 := M
   refine BB 15 (some 65) gkr rfl (AA rfl) rfl rfl (fun ρ hρ => DL _ _ _ rfl w.heap.size _ _ _ _ underlying24 K1 rfl BU _ _ _ (hρ _ _ rfl) (M.own 1 rfl) _ _ _ _ (hρ _ _ rfl) (M.rdBlk 0 rfl rfl) ((Fl.cells_one _)) (by unfold maxLen; first | omega | (simp only [List.length_append, List.length_cons, List.length_nil]; omega)) CX M.fr.size) ?_
   rintro v65 w16 ⟨ho65, hgr65, hvb65⟩
   replace ho65 : World.ownsRow w16 w.heap.size 72 4 v65 (((EC (m.fls.take j) f.tg) ++ [f]).length) (AH Fl.cells ((EC (m.fls.take j) f.tg) ++ [f])) := by rw [show (((EC (m.fls.take j) f.tg) ++ [f]).length) = ((EC (m.fls.take j) f.tg).length) + 1 from by simp, show (AH Fl.cells ((EC (m.fls.take j) f.tg) ++ [f])) = (AH Fl.cells (EC (m.fls.take j) f.tg)) ++ (Fl.cells f) from by simp [AH]]; exact ho65
   have M := M.appOwn 1 rfl ho65 hgr65 hvb65
   obtain ⟨A65, c65, rfl, _⟩ := E8 ho65
   refine ⟨fun _ => (M.pk [2, 3, 4, 5, 6, 7]), BB 16 none gkr rfl (AA rfl) rfl rfl (fun ρ hρ => HY rfl (hρ _ _ rfl) (hρ _ _ rfl) (hρ _ _ rfl) underlying140 underlying9 (M.famMp 2 rfl)) ?_⟩
   rintro _ w17 ⟨rfl, hfw17, hbw17⟩
   have M := M.putFam 2 rfl hfw17 hbw17
   refine ⟨fun h => absurd h BU, ?_⟩
   obtain ⟨F2I, M⟩ := Mem.famPut (M.pk [1, 2, 0, 3, 4, 5, 6, 7]) (by rw [JE, if_pos rfl]) rfl (EC (m.fls.take (j + 1))) (j0 hf) (fun k hk => nO hf hk)
   refine fdn (AD ?_)
   obtain ⟨ARO, CRO, F1O, hvO, M⟩ := Mem.famTake (M.pk [4, 0, 1, 2, 3, 5, 6]) f.frm
   have hbO : (CE (m.fls.take j) f.frm).length ≤ m.fls.length := YA _ _ _
   refine CV 16 (fun w' => Mem w B0 [As.fam w.heap.size 72 4 Fl.cells g13 LO (CE (m.fls.take j)) (fun k => k = f.frm) F1O, As.fam w.heap.size 72 4 Fl.cells g12 (DN LI f.tg (.slice A65 (((EC (m.fls.take j) f.tg) ++ [f]).length) c65)) (EC (m.fls.take (j + 1))) (fun _ => False) F2I, As.blk g64 72 (Fl.cells f), As.blk g9 72 (Fl.cells f), As.blk g15 142 [str m.id, str m.nm, .slice a.V m.vars.length a.vc, .slice a.E m.els.length a.ec, .slice a.F m.fls.length a.fc, .map (some g11), .map (some g12), .map (some g13)], As.mp g11 L, As.blk g1 26 (Md.cells m a)] w') CZ ?_
   have M := M.drew
   refine oc 0 16 rfl rfl (M.pk [1, 2, 3, 4, 5, 6, 7]) (oc 1 16 rfl rfl (M.pk [1, 2, 3, 4, 5, 6, 7]) (oc 2 16 rfl rfl (M.pk [1, 2, 3, 4, 5, 6, 7]) (ol 3 16 rfl rfl rfl (M.pk [1, 2, 3, 4, 5, 6, 7]) (fun _ M => (M.cell 4 rfl rfl)) (oc 4 16 rfl rfl (M.pk [1, 2, 3, 4, 5, 6, 7]) (ol 5 16 rfl rfl rfl (M.pk [1, 2, 3, 4, 5, 6, 7]) (fun _ M => (M.cell 3 rfl rfl)) (oc 6 16 rfl rfl (M.pk [1, 2, 3, 4, 5, 6, 7]) (oc 7 16 rfl rfl (M.pk [1, 2, 3, 4, 5, 6, 7]) (oc 8 16 rfl rfl (M.pk [1, 2, 3, 4, 5, 6, 7]) (ol 9 16 rfl rfl rfl (M.pk [1, 2, 3, 4, 5, 6, 7]) (fun _ M => (M.cell 4 rfl rfl)) (oc 10 16 rfl rfl (M.pk [1, 2, 3, 4, 5, 6, 7]) (ol 11 16 rfl rfl rfl (M.pk [1, 2, 3, 4, 5, 6, 7]) (fun _ M => (M.cell 3 rfl rfl)) (oa 12 16 rfl rfl (M.pk [1, 2, 3, 4, 5, 6, 7]) (fun _ M => BT rfl rfl rfl underlying140 underlying9 zr_sl_api_Flow (M.famMp 0 rfl) hvO) (oa 13 16 rfl rfl (M.pk [1, 2, 3, 4, 5, 6, 7]) (fun _ M => AU (xs := Fl.cells f) rfl rfl (M.rdBlk 3 rfl rfl) underlying72 rfl D3) (BB 14 (some 80) gkr rfl (AA rfl) rfl rfl (fun ρ hρ => DR [.agg (Fl.cells f).toArray] _ hρ rfl rfl rfl rfl underlying24 KY BU BU (HE rfl)) ?_))))))))))))))
   rintro _ w18 ⟨g80, rfl, hg80, hq80, hb80, hfw18⟩
   replace hb80 : Blk w18 g80 72 ((Fl.cells f)) := hb80
   refine ⟨fun _ => (M.pk [1, 2, 3, 4, 5, 6, 7]).step hfw18, ?_⟩
   have M := M.push hfw18 _ hb80 (EB hg80 hq80)
   replace M : Mem w B0 (As.blk g80 72 ((Fl.cells f)) :: _) w18 := M
   refine BB 15 (some 81) gkr rfl (AA rfl) rfl rfl (fun ρ hρ => DL _ _ _ rfl w.heap.size _ _ _ _ underlying24 K1 rfl BU _ _ _ (hρ _ _ rfl) (M.own 1 rfl) _ _ _ _ (hρ _ _ rfl) (M.rdBlk 0 rfl rfl) ((Fl.cells_one _)) (by unfold maxLen; first | omega | (simp only [List.length_append, List.length_cons, List.length_nil]; omega)) CX M.fr.size) ?_
   rintro v81 w19 ⟨ho81, hgr81, hvb81⟩
   replace ho81 : World.ownsRow w19 w.heap.size 72 4 v81 (((CE (m.fls.take j) f.frm) ++ [f]).length) (AH Fl.cells ((CE (m.fls.take j) f.frm) ++ [f])) := by rw [show (((CE (m.fls.take j) f.frm) ++ [f]).length) = ((CE (m.fls.take j) f.frm).length) + 1 from by simp, show (AH Fl.cells ((CE (m.fls.take j) f.frm) ++ [f])) = (AH Fl.cells (CE (m.fls.take j) f.frm)) ++ (Fl.cells f) from by simp [AH]]; exact ho81
   have M := M.appOwn 1 rfl ho81 hgr81 hvb81
   obtain ⟨A81, c81, rfl, _⟩ := E8 ho81
   refine ⟨fun _ => (M.pk [2, 3, 4, 5, 6, 7, 8]), BB 16 none gkr rfl (AA rfl) rfl rfl (fun ρ hρ => HY rfl (hρ _ _ rfl) (hρ _ _ rfl) (hρ _ _ rfl) underlying140 underlying9 (M.famMp 2 rfl)) ?_⟩
   rintro _ w20 ⟨rfl, hfw20, hbw20⟩
   have M := M.putFam 2 rfl hfw20 hbw20
   refine ⟨fun h => absurd h BU, ?_⟩
   obtain ⟨F2O, M⟩ := Mem.famPut (M.pk [1, 2, 0, 3, 4, 5, 6, 7, 8]) (by rw [JE, if_pos rfl]) rfl (CE (m.fls.take (j + 1))) (cA hf) (fun k hk => gZ hf hk)
   refine fdn (AE (AD (AK (ya rfl (BO rfl rfl rfl AM) (yb rfl (AR (fag ⟨j + 1, (DN LI f.tg (.slice A65 (((EC (m.fls.take j) f.tg) ++ [f]).length) c65)), F2I, (DN LO f.frm (.slice A81 (((CE (m.fls.take j) f.frm) ++ [f]).length) c81)), F2O, rfl, (M.pk [5, 0, 2, 6, 7]), ?_, rfl⟩)))))))
   ·omega
  ·have h47p := (odf h47)
   refine BF (AG (AG ?_))
   have hjE : j = m.fls.length := by omega
   rw [hjE, List.take_length] at M
   exact AV (AD (AQ rfl (yb rfl (gnr (gr1 rfl (WO M hL))))))
end Go.Proofs.YtjaocmocdhckaaaGreatDoor
