/- Lemmas that the last text rests on. Condition: each says its own. -/
import Derived.Test.YtjaocmocdhckaaaGreatDoorZRu0
import Derived.Test.YtjaocmocdhckaaaGreatDoorZb6
set_option maxHeartbeats 16000000
set_option maxRecDepth 100000
namespace Go.Proofs.YtjaocmocdhckaaaGreatDoor
open Go.RowKit
open Tryz
theorem RH (l : List El) (x : El) (k : List UInt8) : BK (l ++ [x]) k = match BK l k with
 | some y => some y
 | none => if x.id = k then some x else none := by
 induction l with
 | nil => rfl
 | cons y r ih =>
  rw [List.cons_append, BK, BK]
  by_cases h : y.id = k
  ·rw [if_pos h, if_pos h]
  ·rw [if_neg h, if_neg h]; exact ih
section
variable {L : List (List UInt8 × Value)} {l l' : List El} {x : El} (hL : ∀ k, CQ L k = (BK l k).map elV)
include hL
theorem elG (k : List UInt8) : (CQ L k).getD (.agg zeroEl.cells.toArray) = .agg ((BK l k).getD zeroEl).cells.toArray := by rw [hL]; cases BK l k <;> rfl
theorem elI (k : List UInt8) : (CQ L k).isSome = (BK l k).isSome := by rw [hL]; cases BK l k <;> rfl
theorem iU (hl : l' = l ++ [x]) (h : (!(BK l x.id).isSome) = true) : ∀ k, CQ (DJ L x.id (.agg (El.cells x).toArray)) k = (BK l' k).map elV := fun k => by
 have hn : BK l x.id = none := by
  cases hq : BK l x.id with
  | none => rfl
  | some y => rw [hq] at h; cases h
 rw [G2, hl, RH]
 by_cases hk : k = x.id
 ·subst hk; rw [if_pos rfl, hn]; simp [elV]
 ·rw [if_neg hk, hL]
  cases BK l k with
  | some y => rfl
  | none => rw [if_neg (fun e => hk e.symm)]
theorem nW (hl : l' = l ++ [x]) (h : (!(BK l x.id).isSome) = false) : ∀ k, CQ L k = (BK l' k).map elV := fun k => by
 rw [hL, hl, RH]
 cases hq : BK l k with
 | some y => rfl
 | none =>
  have hk : ¬ x.id = k := fun e => by rw [e, hq] at h; cases h
  rw [if_neg hk]
end
theorem bT (l : List Fl) (i : Nat) (k : List UInt8) : (E6 (l.take i) k).length ≤ l.length := Nat.le_trans (GA _ _) (by rw [List.length_take]; omega)
theorem XF (l : List Fl) (i : Nat) (k : List UInt8) : (C9 (l.take i) k).length ≤ l.length := Nat.le_trans (EI _ _) (by rw [List.length_take]; omega)
section
variable {l : List Fl} {j : Nat} {f : Fl} {k : List UInt8} (hf : l[j]? = some f)
include hf
theorem hG : E6 (l.take (j + 1)) f.tg = E6 (l.take j) f.tg ++ [f] := by
 rw [B2 hf]; unfold E6; rw [List.filter_append]; simp
theorem mO (hk : k ≠ f.tg) : E6 (l.take (j + 1)) k = E6 (l.take j) k := by
 rw [B2 hf]; unfold E6; rw [List.filter_append]; simp [Ne.symm hk]
theorem bE : C9 (l.take (j + 1)) f.frm = C9 (l.take j) f.frm ++ [f] := by
 rw [B2 hf]; unfold C9; rw [List.filter_append]; simp
theorem fP (hk : k ≠ f.frm) : C9 (l.take (j + 1)) k = C9 (l.take j) k := by
 rw [B2 hf]; unfold C9; rw [List.filter_append]; simp [Ne.symm hk]
end
section
variable {w0 w w1 : World} {S : Nat → Prop} {L : List As}
theorem Mem.toFam {α : Type} (M : Mem w0 S L w) (i : Nat) {g : Nat} (hi : L[i]? = some (As.mp g [])) (e : TypeId) (size : Nat) (cells : α → List Value) : Mem w0 S (L.set i (As.fam w0.heap.size e size cells g [] (fun _ => []) (fun _ => False) [])) w :=
 M.upd i hi Fr.refl _ (Fam.new (M.mp i hi) _ _ _ _) (fun _ hg' => .inl hg')
theorem Mem.appOwn (M : Mem w0 S L w) (i : Nat) {base el size n n' : Nat} {v v' : Value} {xs xs' : List Value} (hi : L[i]? = some (As.own base el size v n xs)) (ho : w1.ownsRow base el size v' n' xs') (h2 : w.grownBy w1 v.ownBlock) (h3 : v'.ownBlock = v.ownBlock ∨ v'.ownBlock = some w.heap.size) : Mem w0 S (L.set i (As.own base el size v' n' xs')) w1 := by
 refine M.upd i hi ?_ _ ho ?_
 ·refine ⟨h2.os, h2.tape, h2.output, h2.size, fun g hg hn => h2.block g hg ?_⟩
  intro e
  exact hn (by simp [As.own, ← e])
 ·intro g hg
  rcases h3 with h | h
  ·left; simpa [As.own, h] using hg
  ·right
   have hg' : g = w.heap.size := by simpa [As.own, h, eq_comm] using hg
   have := (N4 ho g hg).2
   omega
end
def MI : Value → Option Addr
 | .slice A _ _ => A
 | _ => none
def X9 : Value → Nat
 | .slice _ _ c => c
 | _ => 0
theorem Fam.val {α : Type} {w : World} {base size g : Nat} {e : TypeId} {cells : α → List Value} {L : List (List UInt8 × Value)} {rows : List UInt8 → List α} {F : List Nat} (h : Fam w base e size cells g L rows (fun _ => False) F) (k : List UInt8) :
 (CQ L k).getD (.slice none 0 0) = .slice (MI (FD L k)) (rows k).length (X9 (FD L k)) ∧ Rd w (MI (FD L k)) ((rows k).length * size) (AK cells (rows k)) := by
 obtain ⟨ho, _⟩ := h.row k (fun hh => hh)
 obtain ⟨A, C, hv, _⟩ := E1 ho
 have hv' : (CQ L k).getD (.slice none 0 0) = .slice A (rows k).length C := hv
 rw [hv', hv]
 rw [hv] at ho
 exact ⟨rfl, N3 ho⟩
structure IxN (w : World) (m : Md) (a : MdA) (x : IxA) (gx : Nat) (F : List Nat) : Prop where
 blk : Blk w gx 142 (Ix.cells m a x)
 E : Mp w x.gE x.LE
 I : Mp w x.gI x.LI
 O : Mp w x.gO x.LO
 getE : ∀ k, (CQ x.LE k).getD (.agg zeroEl.cells.toArray) = .agg ((BK m.els k).getD zeroEl).cells.toArray
 isE : ∀ k, (CQ x.LE k).isSome = (BK m.els k).isSome
 getI : ∀ k, (CQ x.LI k).getD (.slice none 0 0) = .slice (x.iA k) (E6 m.fls k).length (x.iC k)
 getO : ∀ k, (CQ x.LO k).getD (.slice none 0 0) = .slice (x.oA k) (C9 m.fls k).length (x.oC k)
 rdI : ∀ k, Rd w (x.iA k) ((E6 m.fls k).length * 4) (AK Fl.cells (E6 m.fls k))
 rdO : ∀ k, Rd w (x.oA k) ((C9 m.fls k).length * 4) (AK Fl.cells (C9 m.fls k))
 inF : gx ∈ F ∧ x.gE ∈ F ∧ x.gI ∈ F ∧ x.gO ∈ F
 inI : ∀ k b off p, x.iA k = some ⟨b, off, p⟩ → b ∈ F
 inO : ∀ k b off p, x.oA k = some ⟨b, off, p⟩ → b ∈ F
theorem HM {w w' : World} {A : Option Addr} {n : Nat} {xs : List Value} {F : List Nat} (h : Rd w A n xs) (hk : ∀ g ∈ F, g < w.heap.size → w'.heap[g]? = w.heap[g]?) (hA : ∀ b off p, A = some ⟨b, off, p⟩ → b ∈ F) : Rd w' A n xs := by
 refine ⟨h.1, fun hn => ?_⟩
 obtain ⟨b, off, e, hc⟩ := h.2 hn
 refine ⟨b, off, e, fun j u hu => ?_⟩
 have h1 := hc j u hu
 have hl := World.block_lt_of_cell? w _ h1
 have h2 := hk b (hA b off none e) hl
 rw [← h1]
 unfold World.cell?
 simp only [h2]
theorem JA {w w' : World} {g : Nat} {L : List (List UInt8 × Value)} {F : List Nat} (h : Mp w g L) (hk : ∀ g ∈ F, g < w.heap.size → w'.heap[g]? = w.heap[g]?) (hg : g ∈ F) : Mp w' g L := by
 obtain ⟨es, cl, h1, h2⟩ := h
 exact ⟨es, cl, (hk g hg (Array.getElem?_eq_some_iff.1 h1).1).trans h1, h2⟩
theorem IxN.keep {w w' : World} {m : Md} {a : MdA} {x : IxA} {gx : Nat} {F : List Nat} (hk : ∀ g ∈ F, g < w.heap.size → w'.heap[g]? = w.heap[g]?) (h : IxN w m a x gx F) : IxN w' m a x gx F :=
 ⟨(hk gx h.inF.1 h.blk.lt).trans h.blk, JA h.E hk h.inF.2.1, JA h.I hk h.inF.2.2.1, JA h.O hk h.inF.2.2.2, h.getE, h.isE, h.getI, h.getO, fun k => HM (h.rdI k) hk (h.inI k), fun k => HM (h.rdO k) hk (h.inO k), h.inF, h.inI, h.inO⟩
def As.ixp (m : Md) (a : MdA) (x : IxA) (gx : Nat) (F : List Nat) : As := ⟨F, fun w => IxN w m a x gx F, fun h hb => hb.keep h⟩
theorem IxN.at {w : World} {m : Md} {a : MdA} {x : IxA} {gx : Nat} {F : List Nat} (h : IxN w m a x gx F) (hM : MdIn w m a) : IxAt w m a x gx :=
 ⟨hM, h.blk, h.E, h.I, h.O, h.getE, h.isE, h.getI, h.getO, h.rdI, h.rdO⟩
theorem Fam.blk {α : Type} {w : World} {base size g : Nat} {e : TypeId} {cells : α → List Value} {L : List (List UInt8 × Value)} {rows : List UInt8 → List α} {F : List Nat} (h : Fam w base e size cells g L rows (fun _ => False) F) (k : List UInt8) {b : Nat} (hA : (MI (FD L k)).map (fun a => a.block) = some b) : b ∈ F := by
 obtain ⟨ho, hF⟩ := h.row k (fun hh => hh)
 obtain ⟨A, C, hv, _⟩ := E1 ho
 refine hF b ?_
 rw [hv] at hA ⊢
 cases A with
 | none => cases hA
 | some q => simpa [MI, Value.ownBlock] using hA
theorem VU {m : Md} {a : MdA} {w w' : World} {g15 g13 g12 g11 : Nat} {L LI LO : List (List UInt8 × Value)} {FI FO : List Nat} {Ls : List As}
 (M : Mem w AV (As.blk g15 142 [str m.id, str m.nm, .slice a.V m.vars.length a.vc, .slice a.E m.els.length a.ec, .slice a.F m.fls.length a.fc, .map (some g11), .map (some g12), .map (some g13)] :: As.fam w.heap.size 72 4 Fl.cells g13 LO (C9 m.fls) (fun _ => False) FO :: As.fam w.heap.size 72 4 Fl.cells g12 LI (E6 m.fls) (fun _ => False) FI :: As.mp g11 L :: Ls) w')
 (hL : ∀ k, CQ L k = (BK m.els k).map elV) :
 ∃ ix gx F, Ending.returned (pg g15) = .returned (pg gx) ∧ IxN w' m a ix gx F ∧ (∀ g ∈ F, w.heap.size ≤ g ∧ g < w'.heap.size) ∧ Fr0 w w' := by
 have hO : Fam w' w.heap.size 72 4 Fl.cells g13 LO (C9 m.fls) (fun _ => False) FO := M.ok 1 _ rfl
 have hI : Fam w' w.heap.size 72 4 Fl.cells g12 LI (E6 m.fls) (fun _ => False) FI := M.ok 2 _ rfl
 refine ⟨⟨g11, g12, g13, L, LI, LO, fun k => MI (FD LI k), fun k => X9 (FD LI k), fun k => MI (FD LO k), fun k => X9 (FD LO k)⟩, g15, g15 :: g11 :: ((g12 :: FI) ++ (g13 :: FO)), rfl,
  ⟨M.blk 0 rfl, M.mp 3 rfl, hI.map, hO.map, elG hL, elI hL, fun k => (hI.val k).1, fun k => (hO.val k).1, fun k => (hI.val k).2, fun k => (hO.val k).2, ⟨by simp, by simp, by simp, by simp⟩, ?_, ?_⟩, ?_, M.fr⟩
 ·intro k b off p hA
  have := hI.blk k (b := b) (by simp only at hA; rw [hA]; rfl)
  simp [this]
 ·intro k b off p hA
  have := hO.blk k (b := b) (by simp only at hA; rw [hA]; rfl)
  simp [this]
 ·intro g hg
  rcases List.mem_cons.1 hg with rfl | hg
  ·exact M.new0 0 rfl _ (by simp [As.blk])
  ·rcases List.mem_cons.1 hg with rfl | hg
   ·exact M.new0 3 rfl _ (by simp [As.mp])
   ·rcases List.mem_append.1 hg with hg | hg
    ·exact M.new0 2 rfl g hg
    ·exact M.new0 1 rfl g hg
theorem KX (c0_0 c0_1 c0_2 c0_3 c0_4 : Value) (a1 : Option Nat) (a2 : Option Nat) (a3 : Option Nat) : prog.built 142 [(0, .agg #[c0_0, c0_1, c0_2, c0_3, c0_4]), (1, .map a1), (2, .map a2), (3, .map a3)] = some #[c0_0, c0_1, c0_2, c0_3, c0_4, .map a1, .map a2, .map a3] := by kernel_rfl
theorem JL : (prog.info? 72).map (fun i => (i.zero, i.size, i.bytes)) = some (some (.agg #[str [], str [], str [], str []]), 4, 64) := by kernel_rfl
theorem KI : (prog.info? 72).map (fun i => (i.zero, i.size)) = some (some (.agg #[str [], str [], str [], str []]), 4) := by kernel_rfl
theorem zr_sl_api_Flow : (prog.info? 24).map (·.zero) = some (some (.slice none 0 0)) := by kernel_rfl
theorem R7 (m : Md) (a : MdA) (w : World) (ho : MdOk m) (hM : MdIn w m a) :
 Calls prog 35 #[.agg (Md.cells m a).toArray] w fun e w' => ∃ ix gx F, e = .returned (pg gx) ∧ IxN w' m a ix gx F ∧ (∀ g ∈ F, w.heap.size ≤ g ∧ g < w'.heap.size) ∧ Fr0 w w' := by
 have hne := ho.nels
 have hnf := ho.nfls
 refine C2 func35 ntmps35 rfl fun M => srg (CN M rfl rfl fun g1 w1 hg1 M => yb rfl (nq (srg (CR M 0 rfl rfl underlying26 BX rfl (I3 M (AF rfl) rfl rfl rfl fun g11 w2 hg11 M => I3 M (AF rfl) rfl rfl rfl fun g12 w3 hg12 M => I3 M (AF rfl) rfl rfl rfl ?_)))))
 intro g13 w4 hg13 M
 refine ya rfl (B9 (parts := [(0, _), (1, _), (2, _), (3, _)]) rfl rfl (KX _ _ _ _ _ _ _ _)) (DX M (AF rfl) rfl rfl 142 rfl rfl ([str m.id, str m.nm, .slice a.V m.vars.length a.vc, .slice a.E m.els.length a.ec, .slice a.F m.fls.length a.fc, .map (some g11), .map (some g12), .map (some g13)]) rfl fun g15 w5 hg15 M => yb rfl (nq (AD (srg (yb rfl (BA M 4 rfl rfl rfl (ya rfl (C7 rfl rfl (sl rfl)) (yb rfl (nq (AR ?_))))))))))
 refine flp [18, 17, 3, 1] (fun ze e wr mz => ∃ (i : Nat) (L : List (List UInt8 × Value)), e = (19, .int .i64 ((i : Nat) : Int)) :: ze ∧ Mem w AV [As.blk g15 142 [str m.id, str m.nm, .slice a.V m.vars.length a.vc, .slice a.E m.els.length a.ec, .slice a.F m.fls.length a.fc, .map (some g11), .map (some g12), .map (some g13)], As.mp g13 [], As.mp g12 [], As.mp g11 L, As.blk g1 26 (Md.cells m a)] wr ∧ (i ≤ m.els.length) ∧ (∀ k, CQ L k = (BK (m.els.take i) k).map elV) ∧ mz = m.els.length - i) ⟨0, [], rfl, M, Nat.zero_le _, fun _ => rfl, rfl⟩ ?_
 rintro _ w6 _ ⟨i, L, rfl, M, hi, hL, rfl⟩
 refine AD (AB (CB rfl rfl (AC (AA (AD (AN rfl (fun h20 => ?_) (fun h20 => ?_)))))))
 ·have h20p := (odt h20)
  refine AL (AA (AD (AR (srg ?_))))
  obtain ⟨x, hx⟩ := CA (l := m.els) (i := i) AO
  obtain ⟨b_x, o_x, hA_x⟩ := BI (k := 11) AO (M.rd hM.els) hx
  refine ya rfl (B1 i hA_x rfl rfl rfl (sl rfl) AO) (ya rfl (AT rfl rfl (BQ El.len (M.rd hM.els) hA_x hx) underlying69 rfl AZ) (D6 M rfl B4 fun g5 w7 hg5 M => C1 M 0 rfl rfl AZ rfl fun w8 M => nq (AD (CO 13 (fun w' => Mem w AV [As.blk g5 69 (El.cells x), As.blk g15 142 [str m.id, str m.nm, .slice a.V m.vars.length a.vc, .slice a.E m.els.length a.ec, .slice a.F m.fls.length a.fc, .map (some g11), .map (some g12), .map (some g13)], As.mp g13 [], As.mp g12 [], As.mp g11 L, As.blk g1 26 (Md.cells m a)] w') CU ?_))))
  have M := M.drew
  refine oc 0 13 rfl rfl M (oc 1 13 rfl rfl M (oc 2 13 rfl rfl M (ol 3 13 rfl rfl rfl M (fun _ M => (M.cell 1 rfl rfl)) (oc 4 13 rfl rfl M (ol 5 13 rfl rfl rfl M (fun _ M => (M.cell 0 rfl rfl)) (oa 6 13 rfl rfl M (fun _ M => E0 rfl rfl rfl underlying62 underlying9 B4 (M.mp 4 rfl) (elG hL _) (elI hL _)) (oc 7 13 rfl rfl M (oc 8 13 rfl rfl M (oc 9 13 rfl rfl M (fon M 10 6 rfl rfl B4 fun g6 w9 hg6 M => fop M 11 0 rfl rfl rfl AZ rfl (·.drop 1) fun w10 M => oc 12 13 rfl rfl (M.drop 1) (fdn (AA (AD ?_)))))))))))))
  refine AB (yb rfl (yb rfl (AC (AA (AN rfl (fun h34 => ?_) (fun h34 => ?_))))))
  ·have h34p := (CE h34)
   refine DN 7 CU gkr ?_
   have M := M.drew
   refine sb rfl (sb rfl (sb rfl (FK M 2 rfl rfl rfl (sb rfl (FK M 1 rfl rfl rfl (sa rfl (AT (xs := El.cells x) rfl rfl (M.rdBlk 1 rfl rfl) underlying69 rfl AZ) (CS (FS M 5 (AF rfl) rfl rfl rfl rfl rfl underlying62 underlying9 rfl fun w11 M => AC (AH (AA (AB (ya rfl (BF rfl rfl rfl AO) (yb rfl ?_)))))))))))))
   refine AC (fag ⟨i + 1, DJ L x.id (.agg (El.cells x).toArray), rfl, (M.pk [2, 3, 4, 5, 6]), ?_, ?_, rfl⟩)
   ·omega
   ·first
     | exact iU hL (B2 hx) h34
     | exact nW hL (B2 hx) h34
  ·have h34p := (BM h34)
   refine AL (AH (AA (AB (ya rfl (BF rfl rfl rfl AO) (yb rfl (AC (fag ⟨i + 1, L, rfl, (M.pk [2, 3, 4, 5, 6]), ?_, ?_, rfl⟩)))))))
   ·omega
   ·first
     | exact iU hL (B2 hx) h34
     | exact nW hL (B2 hx) h34
 ·have h20p := (odf h20)
  refine BG (AJ (AJ ?_))
  have hiE : i = m.els.length := by omega
  rw [hiE, List.take_length] at hL
  refine AY (AA (AD (srg (yb rfl (BA M 4 rfl rfl rfl (ya rfl (C7 rfl rfl (sl rfl)) (yb rfl (nq (AR ?_)))))))))
  have M := M.toFam 2 rfl 72 4 Fl.cells
  have M := M.toFam 1 rfl 72 4 Fl.cells
  refine flp [45, 44, 3] (fun ze e wr mz => ∃ (j : Nat) (LI : List (List UInt8 × Value)) (FI : List Nat) (LO : List (List UInt8 × Value)) (FO : List Nat), e = (46, .int .i64 ((j : Nat) : Int)) :: ze ∧ Mem w AV [As.blk g15 142 [str m.id, str m.nm, .slice a.V m.vars.length a.vc, .slice a.E m.els.length a.ec, .slice a.F m.fls.length a.fc, .map (some g11), .map (some g12), .map (some g13)], As.fam w.heap.size 72 4 Fl.cells g13 LO (C9 (m.fls.take j)) (fun _ => False) FO, As.fam w.heap.size 72 4 Fl.cells g12 LI (E6 (m.fls.take j)) (fun _ => False) FI, As.mp g11 L, As.blk g1 26 (Md.cells m a)] wr ∧ (j ≤ m.fls.length) ∧ mz = m.fls.length - j) ⟨0, [], [], [], [], rfl, M, Nat.zero_le _, rfl⟩ ?_
  rintro _ w12 _ ⟨j, LI, FI, LO, FO, rfl, M, hj, rfl⟩
  refine AD (AB (CB rfl rfl (AC (AA (AD (AN rfl (fun h47 => ?_) (fun h47 => ?_)))))))
  ·have h47p := (odt h47)
   refine AL (AA (AD (AR (srg ?_))))
   obtain ⟨f, hf⟩ := CA (l := m.fls) (i := j) AO
   obtain ⟨b_f, o_f, hA_f⟩ := BI (k := 4) AO (M.rd hM.fls) hf
   refine ya rfl (B1 j hA_f rfl rfl rfl (sl rfl) AO) (ya rfl (AT rfl rfl (BQ Fl.len (M.rd hM.fls) hA_f hf) underlying72 rfl CZ) (D6 M rfl EY fun g9 w13 hg9 M => C1 M 0 rfl rfl CZ rfl fun w14 M => nq (AD ?_)))
   obtain ⟨ARI, CRI, F1I, hvI, M⟩ := Mem.famTake (M.pk [3, 0, 1, 2, 4, 5]) f.tg
   have hbI : (E6 (m.fls.take j) f.tg).length ≤ m.fls.length := bT _ _ _
   refine CO 16 (fun w' => Mem w AV [As.fam w.heap.size 72 4 Fl.cells g12 LI (E6 (m.fls.take j)) (fun k => k = f.tg) F1I, As.blk g9 72 (Fl.cells f), As.blk g15 142 [str m.id, str m.nm, .slice a.V m.vars.length a.vc, .slice a.E m.els.length a.ec, .slice a.F m.fls.length a.fc, .map (some g11), .map (some g12), .map (some g13)], As.fam w.heap.size 72 4 Fl.cells g13 LO (C9 (m.fls.take j)) (fun _ => False) FO, As.mp g11 L, As.blk g1 26 (Md.cells m a)] w') CU ?_
   have M := M.drew
   refine oc 0 16 rfl rfl (M.pk [1, 2, 3, 4, 5, 6]) (oc 1 16 rfl rfl (M.pk [1, 2, 3, 4, 5, 6]) (oc 2 16 rfl rfl (M.pk [1, 2, 3, 4, 5, 6]) (ol 3 16 rfl rfl rfl (M.pk [1, 2, 3, 4, 5, 6]) (fun _ M => (M.cell 2 rfl rfl)) (oc 4 16 rfl rfl (M.pk [1, 2, 3, 4, 5, 6]) (ol 5 16 rfl rfl rfl (M.pk [1, 2, 3, 4, 5, 6]) (fun _ M => (M.cell 1 rfl rfl)) (oc 6 16 rfl rfl (M.pk [1, 2, 3, 4, 5, 6]) (oc 7 16 rfl rfl (M.pk [1, 2, 3, 4, 5, 6]) (oc 8 16 rfl rfl (M.pk [1, 2, 3, 4, 5, 6]) (ol 9 16 rfl rfl rfl (M.pk [1, 2, 3, 4, 5, 6]) (fun _ M => (M.cell 2 rfl rfl)) (oc 10 16 rfl rfl (M.pk [1, 2, 3, 4, 5, 6]) (ol 11 16 rfl rfl rfl (M.pk [1, 2, 3, 4, 5, 6]) (fun _ M => (M.cell 1 rfl rfl)) (oa 12 16 rfl rfl (M.pk [1, 2, 3, 4, 5, 6]) (fun _ M => BP rfl rfl rfl underlying140 underlying9 zr_sl_api_Flow (M.famMp 0 rfl) hvI) (oa 13 16 rfl rfl (M.pk [1, 2, 3, 4, 5, 6]) (fun _ M => AT (xs := Fl.cells f) rfl rfl (M.rdBlk 1 rfl rfl) underlying72 rfl CZ) (B7 14 (some 64) gkr rfl (AF rfl) rfl rfl (fun ρ hρ => DL [.agg (Fl.cells f).toArray] _ hρ rfl rfl rfl rfl underlying24 KI BR BR (GX rfl)) ?_))))))))))))))
   rintro _ w15 ⟨g64, rfl, hg64, hq64, hb64, hfw15⟩
   replace hb64 : Blk w15 g64 72 ((Fl.cells f)) := hb64
   refine ⟨fun _ => (M.pk [1, 2, 3, 4, 5, 6]).step hfw15, ?_⟩
   have M := M.push hfw15 _ hb64 (DV hg64 hq64)
   replace M : Mem w AV (As.blk g64 72 ((Fl.cells f)) :: _) w15 := M
   refine B7 15 (some 65) gkr rfl (AF rfl) rfl rfl (fun ρ hρ => DI _ _ _ rfl w.heap.size _ _ _ _ underlying24 JL rfl BR _ _ _ (hρ _ _ rfl) (M.own 1 rfl) _ _ _ _ (hρ _ _ rfl) (M.rdBlk 0 rfl rfl) ((Fl.cells_one _)) (by unfold maxLen; first | omega | (simp only [List.length_append, List.length_cons, List.length_nil]; omega)) (by first | omega | (simp <;> omega)) M.fr.size) ?_
   rintro v65 w16 ⟨ho65, hgr65, hvb65⟩
   replace ho65 : World.ownsRow w16 w.heap.size 72 4 v65 (((E6 (m.fls.take j) f.tg) ++ [f]).length) (AK Fl.cells ((E6 (m.fls.take j) f.tg) ++ [f])) := by rw [show (((E6 (m.fls.take j) f.tg) ++ [f]).length) = ((E6 (m.fls.take j) f.tg).length) + 1 from by simp, show (AK Fl.cells ((E6 (m.fls.take j) f.tg) ++ [f])) = (AK Fl.cells (E6 (m.fls.take j) f.tg)) ++ (Fl.cells f) from by simp [AK]]; exact ho65
   have M := M.appOwn 1 rfl ho65 hgr65 hvb65
   obtain ⟨A65, c65, rfl, _⟩ := E1 ho65
   refine ⟨fun _ => (M.pk [2, 3, 4, 5, 6, 7]), B7 16 none gkr rfl (AF rfl) rfl rfl (fun ρ hρ => HP rfl (hρ _ _ rfl) (hρ _ _ rfl) (hρ _ _ rfl) underlying140 underlying9 (M.famMp 2 rfl)) ?_⟩
   rintro _ w17 ⟨rfl, hfw17, hbw17⟩
   have M := M.putFam 2 rfl hfw17 hbw17
   refine ⟨fun h => absurd h BR, ?_⟩
   obtain ⟨F2I, M⟩ := Mem.famPut (M.pk [1, 2, 0, 3, 4, 5, 6, 7]) (by rw [IZ, if_pos rfl]) rfl (E6 (m.fls.take (j + 1))) (hG hf) (fun k hk => mO hf hk)
   refine fdn (AA ?_)
   obtain ⟨ARO, CRO, F1O, hvO, M⟩ := Mem.famTake (M.pk [4, 0, 1, 2, 3, 5, 6]) f.frm
   have hbO : (C9 (m.fls.take j) f.frm).length ≤ m.fls.length := XF _ _ _
   refine CO 16 (fun w' => Mem w AV [As.fam w.heap.size 72 4 Fl.cells g13 LO (C9 (m.fls.take j)) (fun k => k = f.frm) F1O, As.fam w.heap.size 72 4 Fl.cells g12 (DJ LI f.tg (.slice A65 (((E6 (m.fls.take j) f.tg) ++ [f]).length) c65)) (E6 (m.fls.take (j + 1))) (fun _ => False) F2I, As.blk g64 72 (Fl.cells f), As.blk g9 72 (Fl.cells f), As.blk g15 142 [str m.id, str m.nm, .slice a.V m.vars.length a.vc, .slice a.E m.els.length a.ec, .slice a.F m.fls.length a.fc, .map (some g11), .map (some g12), .map (some g13)], As.mp g11 L, As.blk g1 26 (Md.cells m a)] w') CU ?_
   have M := M.drew
   refine oc 0 16 rfl rfl (M.pk [1, 2, 3, 4, 5, 6, 7]) (oc 1 16 rfl rfl (M.pk [1, 2, 3, 4, 5, 6, 7]) (oc 2 16 rfl rfl (M.pk [1, 2, 3, 4, 5, 6, 7]) (ol 3 16 rfl rfl rfl (M.pk [1, 2, 3, 4, 5, 6, 7]) (fun _ M => (M.cell 4 rfl rfl)) (oc 4 16 rfl rfl (M.pk [1, 2, 3, 4, 5, 6, 7]) (ol 5 16 rfl rfl rfl (M.pk [1, 2, 3, 4, 5, 6, 7]) (fun _ M => (M.cell 3 rfl rfl)) (oc 6 16 rfl rfl (M.pk [1, 2, 3, 4, 5, 6, 7]) (oc 7 16 rfl rfl (M.pk [1, 2, 3, 4, 5, 6, 7]) (oc 8 16 rfl rfl (M.pk [1, 2, 3, 4, 5, 6, 7]) (ol 9 16 rfl rfl rfl (M.pk [1, 2, 3, 4, 5, 6, 7]) (fun _ M => (M.cell 4 rfl rfl)) (oc 10 16 rfl rfl (M.pk [1, 2, 3, 4, 5, 6, 7]) (ol 11 16 rfl rfl rfl (M.pk [1, 2, 3, 4, 5, 6, 7]) (fun _ M => (M.cell 3 rfl rfl)) (oa 12 16 rfl rfl (M.pk [1, 2, 3, 4, 5, 6, 7]) (fun _ M => BP rfl rfl rfl underlying140 underlying9 zr_sl_api_Flow (M.famMp 0 rfl) hvO) (oa 13 16 rfl rfl (M.pk [1, 2, 3, 4, 5, 6, 7]) (fun _ M => AT (xs := Fl.cells f) rfl rfl (M.rdBlk 3 rfl rfl) underlying72 rfl CZ) (B7 14 (some 80) gkr rfl (AF rfl) rfl rfl (fun ρ hρ => DL [.agg (Fl.cells f).toArray] _ hρ rfl rfl rfl rfl underlying24 KI BR BR (GX rfl)) ?_))))))))))))))
   rintro _ w18 ⟨g80, rfl, hg80, hq80, hb80, hfw18⟩
   replace hb80 : Blk w18 g80 72 ((Fl.cells f)) := hb80
   refine ⟨fun _ => (M.pk [1, 2, 3, 4, 5, 6, 7]).step hfw18, ?_⟩
   have M := M.push hfw18 _ hb80 (DV hg80 hq80)
   replace M : Mem w AV (As.blk g80 72 ((Fl.cells f)) :: _) w18 := M
   refine B7 15 (some 81) gkr rfl (AF rfl) rfl rfl (fun ρ hρ => DI _ _ _ rfl w.heap.size _ _ _ _ underlying24 JL rfl BR _ _ _ (hρ _ _ rfl) (M.own 1 rfl) _ _ _ _ (hρ _ _ rfl) (M.rdBlk 0 rfl rfl) ((Fl.cells_one _)) (by unfold maxLen; first | omega | (simp only [List.length_append, List.length_cons, List.length_nil]; omega)) (by first | omega | (simp <;> omega)) M.fr.size) ?_
   rintro v81 w19 ⟨ho81, hgr81, hvb81⟩
   replace ho81 : World.ownsRow w19 w.heap.size 72 4 v81 (((C9 (m.fls.take j) f.frm) ++ [f]).length) (AK Fl.cells ((C9 (m.fls.take j) f.frm) ++ [f])) := by rw [show (((C9 (m.fls.take j) f.frm) ++ [f]).length) = ((C9 (m.fls.take j) f.frm).length) + 1 from by simp, show (AK Fl.cells ((C9 (m.fls.take j) f.frm) ++ [f])) = (AK Fl.cells (C9 (m.fls.take j) f.frm)) ++ (Fl.cells f) from by simp [AK]]; exact ho81
   have M := M.appOwn 1 rfl ho81 hgr81 hvb81
   obtain ⟨A81, c81, rfl, _⟩ := E1 ho81
   refine ⟨fun _ => (M.pk [2, 3, 4, 5, 6, 7, 8]), B7 16 none gkr rfl (AF rfl) rfl rfl (fun ρ hρ => HP rfl (hρ _ _ rfl) (hρ _ _ rfl) (hρ _ _ rfl) underlying140 underlying9 (M.famMp 2 rfl)) ?_⟩
   rintro _ w20 ⟨rfl, hfw20, hbw20⟩
   have M := M.putFam 2 rfl hfw20 hbw20
   refine ⟨fun h => absurd h BR, ?_⟩
   obtain ⟨F2O, M⟩ := Mem.famPut (M.pk [1, 2, 0, 3, 4, 5, 6, 7, 8]) (by rw [IZ, if_pos rfl]) rfl (C9 (m.fls.take (j + 1))) (bE hf) (fun k hk => fP hf hk)
   refine fdn (AH (AA (AB (ya rfl (BF rfl rfl rfl AO) (yb rfl (AC (fag ⟨j + 1, (DJ LI f.tg (.slice A65 (((E6 (m.fls.take j) f.tg) ++ [f]).length) c65)), F2I, (DJ LO f.frm (.slice A81 (((C9 (m.fls.take j) f.frm) ++ [f]).length) c81)), F2O, rfl, (M.pk [5, 0, 2, 6, 7]), ?_, rfl⟩)))))))
   ·omega
  ·have h47p := (odf h47)
   refine BG (AJ (AJ ?_))
   have hjE : j = m.fls.length := by omega
   rw [hjE, List.take_length] at M
   exact AY (AA (srg (yb rfl (yb rfl (nq (AI (gr1 rfl (VU M hL))))))))
end Go.Proofs.YtjaocmocdhckaaaGreatDoor
