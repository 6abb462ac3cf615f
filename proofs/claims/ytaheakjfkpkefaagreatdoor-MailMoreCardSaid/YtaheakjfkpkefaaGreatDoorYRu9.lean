/- Lemmas that the last text rests on. Condition: each says its own. -/
import Derived.Test.YtaheakjfkpkefaaGreatDoorYRu1
import Derived.Test.YtaheakjfkpkefaaGreatDoorYb5
set_option maxHeartbeats 16000000
set_option maxRecDepth 100000
namespace Go.Proofs.YtaheakjfkpkefaaGreatDoor
open Go.RowKit
structure MdB (m : Md) : Prop where
 id : (m.id.length : Int) < 4611686018427387904
 nm : (m.nm.length : Int) < 4611686018427387904
 vars : BdOk m.vars
 nels : m.els.length ≤ 1000
 nfls : m.fls.length ≤ 2199023255488
 nvars : m.vars.length ≤ 4611686018427387904
 els : ∀ x ∈ m.els, ElOk x
 fls : ∀ x ∈ m.fls, FlOk x
theorem MdOk.b {m : Md} (h : MdOk m) : MdB m := ⟨h.id, h.nm, h.vars, by have := h.nels; omega, by have := h.nfls; omega, by have := h.nvars; omega, h.els, h.fls⟩
open Tryz
section
theorem RZ (l : List El) (x : El) (k : List UInt8) : B3 (l ++ [x]) k = match B3 l k with
 | some y => some y
 | none => if x.id = k then some x else none := by
 induction l with
 | nil => rfl
 | cons y r ih =>
  rw [List.cons_append, B3, B3]
  by_cases h : y.id = k
  ·rw [if_pos h, if_pos h]
  ·rw [if_neg h, if_neg h]; exact ih
section
variable {L : List (List UInt8 × Value)} {l l' : List El} {x : El} (hL : ∀ k, BP L k = (B3 l k).map elV)
include hL
theorem elG (k : List UInt8) : (BP L k).getD (.agg zeroEl.cells.toArray) = .agg ((B3 l k).getD zeroEl).cells.toArray := by rw [hL]; cases B3 l k <;> rfl
theorem elI (k : List UInt8) : (BP L k).isSome = (B3 l k).isSome := by rw [hL]; cases B3 l k <;> rfl
theorem kT (hl : l' = l ++ [x]) (h : (!(B3 l x.id).isSome) = true) : ∀ k, BP (CK L x.id (.agg (El.cells x).toArray)) k = (B3 l' k).map elV := fun k => by
 have hn : B3 l x.id = none := by
  cases hq : B3 l x.id with
  | none => rfl
  | some y => rw [hq] at h; cases h
 rw [E8, hl, RZ]
 by_cases hk : k = x.id
 ·subst hk; rw [if_pos rfl, hn]; simp [elV]
 ·rw [if_neg hk, hL]
  cases B3 l k with
  | some y => rfl
  | none => rw [if_neg (fun e => hk e.symm)]
theorem pX (hl : l' = l ++ [x]) (h : (!(B3 l x.id).isSome) = false) : ∀ k, BP L k = (B3 l' k).map elV := fun k => by
 rw [hL, hl, RZ]
 cases hq : B3 l k with
 | some y => rfl
 | none =>
  have hk : ¬ x.id = k := fun e => by rw [e, hq] at h; cases h
  rw [if_neg hk]
end
theorem dJ (l : List Fl) (i : Nat) (k : List UInt8) : (DG (l.take i) k).length ≤ l.length := Nat.le_trans (FH _ _) (by rw [List.length_take]; omega)
theorem YB (l : List Fl) (i : Nat) (k : List UInt8) : (BI (l.take i) k).length ≤ l.length := Nat.le_trans (DR _ _) (by rw [List.length_take]; omega)
section
variable {l : List Fl} {j : Nat} {f : Fl} {k : List UInt8} (hf : l[j]? = some f)
include hf
theorem jU : DG (l.take (j + 1)) f.tg = DG (l.take j) f.tg ++ [f] := by
 rw [AJ hf]; unfold DG; rw [List.filter_append]; simp
theorem oH (hk : k ≠ f.tg) : DG (l.take (j + 1)) k = DG (l.take j) k := by
 rw [AJ hf]; unfold DG; rw [List.filter_append]; simp [Ne.symm hk]
theorem cK : BI (l.take (j + 1)) f.frm = BI (l.take j) f.frm ++ [f] := by
 rw [AJ hf]; unfold BI; rw [List.filter_append]; simp
theorem iQ (hk : k ≠ f.frm) : BI (l.take (j + 1)) k = BI (l.take j) k := by
 rw [AJ hf]; unfold BI; rw [List.filter_append]; simp [Ne.symm hk]
end
section
variable {w0 w w1 : World} {S : Nat → Prop} {L : List As}
theorem Mem.toFam {α : Type} (M : Mem w0 S L w) (i : Nat) {g : Nat} (hi : L[i]? = some (As.mp g [])) (e : TypeId) (size : Nat) (cells : α → List Value) : Mem w0 S (L.set i (As.fam w0.heap.size e size cells g [] (fun _ => []) (fun _ => False) [])) w :=
 M.upd i hi Fr.refl _ (Fam.new (M.mp i hi) _ _ _ _) (fun _ hg' => .inl hg')
theorem Mem.appOwn (M : Mem w0 S L w) (i : Nat) {base el size n n' : Nat} {v v' : Value} {xs xs' : List Value} (hi : L[i]? = some (As.own base el size v n xs)) (ho : w1.ownsRow base el size v' n' xs') (h2 : w.grownBy w1 v.ownBlock) (h3 : v'.ownBlock = v.ownBlock ∨ v'.ownBlock = some w.heap.size) : Mem w0 S (L.set i (As.own base el size v' n' xs')) w1 := by
 refine M.upd i hi ?_ _ ho ?_
 ·refine ⟨h2.os, h2.tape, h2.output, h2.size, fun g hg hn => h2.block g hg ?_⟩
  intro e
  exact hn (by simp [As.own, ← e])
 ·intro g hg
  rcases h3 with h | h
  ·left; simpa [As.own, h] using hg
  ·right
   have hg' : g = w.heap.size := by simpa [As.own, h, eq_comm] using hg
   have := (MT ho g hg).2
   omega
end
def MB : Value → Option Addr
 | .slice A _ _ => A
 | _ => none
def Y3 : Value → Nat
 | .slice _ _ c => c
 | _ => 0
theorem Fam.val {α : Type} {w : World} {base size g : Nat} {e : TypeId} {cells : α → List Value} {L : List (List UInt8 × Value)} {rows : List UInt8 → List α} {F : List Nat} (h : Fam w base e size cells g L rows (fun _ => False) F) (k : List UInt8) :
 (BP L k).getD (.slice none 0 0) = .slice (MB (ED L k)) (rows k).length (Y3 (ED L k)) ∧ Rd w (MB (ED L k)) ((rows k).length * size) (AB cells (rows k)) := by
 obtain ⟨ho, _⟩ := h.row k (fun hh => hh)
 obtain ⟨A, C, hv, _⟩ := CC ho
 have hv' : (BP L k).getD (.slice none 0 0) = .slice A (rows k).length C := hv
 rw [hv', hv]
 rw [hv] at ho
 exact ⟨rfl, K7 ho⟩
structure IxN (w : World) (m : Md) (a : MdA) (x : IxA) (gx : Nat) (F : List Nat) : Prop where
 blk : Blk w gx 199 (Ix.cells m a x)
 E : Mp w x.gE x.LE
 I : Mp w x.gI x.LI
 O : Mp w x.gO x.LO
 getE : ∀ k, (BP x.LE k).getD (.agg zeroEl.cells.toArray) = .agg ((B3 m.els k).getD zeroEl).cells.toArray
 isE : ∀ k, (BP x.LE k).isSome = (B3 m.els k).isSome
 getI : ∀ k, (BP x.LI k).getD (.slice none 0 0) = .slice (x.iA k) (DG m.fls k).length (x.iC k)
 getO : ∀ k, (BP x.LO k).getD (.slice none 0 0) = .slice (x.oA k) (BI m.fls k).length (x.oC k)
 rdI : ∀ k, Rd w (x.iA k) ((DG m.fls k).length * 4) (AB Fl.cells (DG m.fls k))
 rdO : ∀ k, Rd w (x.oA k) ((BI m.fls k).length * 4) (AB Fl.cells (BI m.fls k))
 inF : gx ∈ F ∧ x.gE ∈ F ∧ x.gI ∈ F ∧ x.gO ∈ F
 inI : ∀ k b off p, x.iA k = some ⟨b, off, p⟩ → b ∈ F
 inO : ∀ k b off p, x.oA k = some ⟨b, off, p⟩ → b ∈ F
theorem GR {w w' : World} {A : Option Addr} {n : Nat} {xs : List Value} {F : List Nat} (h : Rd w A n xs) (hk : ∀ g ∈ F, g < w.heap.size → w'.heap[g]? = w.heap[g]?) (hA : ∀ b off p, A = some ⟨b, off, p⟩ → b ∈ F) : Rd w' A n xs := by
 refine ⟨h.1, fun hn => ?_⟩
 obtain ⟨b, off, e, hc⟩ := h.2 hn
 refine ⟨b, off, e, fun j u hu => ?_⟩
 have h1 := hc j u hu
 have hl := World.block_lt_of_cell? w _ h1
 have h2 := hk b (hA b off none e) hl
 rw [← h1]
 unfold World.cell?
 simp only [h2]
theorem J0 {w w' : World} {g : Nat} {L : List (List UInt8 × Value)} {F : List Nat} (h : Mp w g L) (hk : ∀ g ∈ F, g < w.heap.size → w'.heap[g]? = w.heap[g]?) (hg : g ∈ F) : Mp w' g L := by
 obtain ⟨es, cl, h1, h2⟩ := h
 exact ⟨es, cl, (hk g hg (Array.getElem?_eq_some_iff.1 h1).1).trans h1, h2⟩
theorem IxN.keep {w w' : World} {m : Md} {a : MdA} {x : IxA} {gx : Nat} {F : List Nat} (hk : ∀ g ∈ F, g < w.heap.size → w'.heap[g]? = w.heap[g]?) (h : IxN w m a x gx F) : IxN w' m a x gx F :=
 ⟨(hk gx h.inF.1 h.blk.lt).trans h.blk, J0 h.E hk h.inF.2.1, J0 h.I hk h.inF.2.2.1, J0 h.O hk h.inF.2.2.2, h.getE, h.isE, h.getI, h.getO, fun k => GR (h.rdI k) hk (h.inI k), fun k => GR (h.rdO k) hk (h.inO k), h.inF, h.inI, h.inO⟩
def As.ixp (m : Md) (a : MdA) (x : IxA) (gx : Nat) (F : List Nat) : As := ⟨F, fun w => IxN w m a x gx F, fun h hb => hb.keep h⟩
theorem IxN.at {w : World} {m : Md} {a : MdA} {x : IxA} {gx : Nat} {F : List Nat} (h : IxN w m a x gx F) (hM : MdIn w m a) : IxAt w m a x gx :=
 ⟨hM, h.blk, h.E, h.I, h.O, h.getE, h.isE, h.getI, h.getO, h.rdI, h.rdO⟩
theorem Fam.blk {α : Type} {w : World} {base size g : Nat} {e : TypeId} {cells : α → List Value} {L : List (List UInt8 × Value)} {rows : List UInt8 → List α} {F : List Nat} (h : Fam w base e size cells g L rows (fun _ => False) F) (k : List UInt8) {b : Nat} (hA : (MB (ED L k)).map (fun a => a.block) = some b) : b ∈ F := by
 obtain ⟨ho, hF⟩ := h.row k (fun hh => hh)
 obtain ⟨A, C, hv, _⟩ := CC ho
 refine hF b ?_
 rw [hv] at hA ⊢
 cases A with
 | none => cases hA
 | some q => simpa [MB, Value.ownBlock] using hA
theorem WS {m : Md} {a : MdA} {w w' : World} {g15 g13 g12 g11 : Nat} {L LI LO : List (List UInt8 × Value)} {FI FO : List Nat} {Ls : List As}
 (M : Mem w AM (As.blk g15 199 [str m.id, str m.nm, .slice a.V m.vars.length a.vc, .slice a.E m.els.length a.ec, .slice a.F m.fls.length a.fc, .map (some g11), .map (some g12), .map (some g13)] :: As.fam w.heap.size 109 4 Fl.cells g13 LO (BI m.fls) (fun _ => False) FO :: As.fam w.heap.size 109 4 Fl.cells g12 LI (DG m.fls) (fun _ => False) FI :: As.mp g11 L :: Ls) w')
 (hL : ∀ k, BP L k = (B3 m.els k).map elV) :
 ∃ ix gx F, Ending.returned (pg g15) = .returned (pg gx) ∧ IxN w' m a ix gx F ∧ (∀ g ∈ F, w.heap.size ≤ g ∧ g < w'.heap.size) ∧ Fr0 w w' := by
 have hO : Fam w' w.heap.size 109 4 Fl.cells g13 LO (BI m.fls) (fun _ => False) FO := M.ok 1 _ rfl
 have hI : Fam w' w.heap.size 109 4 Fl.cells g12 LI (DG m.fls) (fun _ => False) FI := M.ok 2 _ rfl
 refine ⟨⟨g11, g12, g13, L, LI, LO, fun k => MB (ED LI k), fun k => Y3 (ED LI k), fun k => MB (ED LO k), fun k => Y3 (ED LO k)⟩, g15, g15 :: g11 :: ((g12 :: FI) ++ (g13 :: FO)), rfl,
  ⟨M.blk 0 rfl, M.mp 3 rfl, hI.map, hO.map, elG hL, elI hL, fun k => (hI.val k).1, fun k => (hO.val k).1, fun k => (hI.val k).2, fun k => (hO.val k).2, ⟨by simp, by simp, by simp, by simp⟩, ?_, ?_⟩, ?_, M.fr⟩
 ·intro k b off p hA
  have := hI.blk k (b := b) (by simp only at hA; rw [hA]; rfl)
  simp [this]
 ·intro k b off p hA
  have := hO.blk k (b := b) (by simp only at hA; rw [hA]; rfl)
  simp [this]
 ·intro g hg
  rcases List.mem_cons.1 hg with rfl | hg
  ·exact M.new0 0 rfl _ (by simp [As.blk])
  ·rcases List.mem_cons.1 hg with rfl | hg
   ·exact M.new0 3 rfl _ (by simp [As.mp])
   ·rcases List.mem_append.1 hg with hg | hg
    ·exact M.new0 2 rfl g hg
    ·exact M.new0 1 rfl g hg
theorem KQ (c0_0 c0_1 c0_2 c0_3 c0_4 : Value) (a1 : Option Nat) (a2 : Option Nat) (a3 : Option Nat) : prog.built 199 [(0, .agg #[c0_0, c0_1, c0_2, c0_3, c0_4]), (1, .map a1), (2, .map a2), (3, .map a3)] = some #[c0_0, c0_1, c0_2, c0_3, c0_4, .map a1, .map a2, .map a3] := by kernel_rfl
theorem JD : (prog.info? 109).map (fun i => (i.zero, i.size, i.bytes)) = some (some (.agg #[str [], str [], str [], str []]), 4, 64) := by kernel_rfl
theorem KC : (prog.info? 109).map (fun i => (i.zero, i.size)) = some (some (.agg #[str [], str [], str [], str []]), 4) := by kernel_rfl
theorem zr_sl_api_Flow : (prog.info? 60).map (·.zero) = some (some (.slice none 0 0)) := by kernel_rfl
theorem RM (m : Md) (a : MdA) (w : World) (ho : MdB m) (hM : MdIn w m a) :
 Calls prog 65 #[.agg (Md.cells m a).toArray] w fun e w' => ∃ ix gx F, e = .returned (pg gx) ∧ IxN w' m a ix gx F ∧ (∀ g ∈ F, w.heap.size ≤ g ∧ g < w'.heap.size) ∧ Fr0 w w' := by
 have hne := ho.nels
 have hnf := ho.nfls
 refine BL func65 ntmps65 rfl fun M => srg (DD M rfl rfl fun g1 w1 hg1 M => AG rfl (srg (DO M 0 rfl rfl underlying62 B6 rfl (HL M (wn_none rfl) rfl rfl rfl fun g11 w2 hg11 M => HL M (wn_none rfl) rfl rfl rfl fun g12 w3 hg12 M => HL M (wn_none rfl) rfl rfl rfl ?_))))
 intro g13 w4 hg13 M
 refine ya rfl (AY (parts := [(0, _), (1, _), (2, _), (3, _)]) rfl rfl (KQ _ _ _ _ _ _ _ _)) (DB M (wn_none rfl) rfl rfl 199 rfl rfl ([str m.id, str m.nm, .slice a.V m.vars.length a.vc, .slice a.E m.els.length a.ec, .slice a.F m.fls.length a.fc, .map (some g11), .map (some g12), .map (some g13)]) rfl fun g15 w5 hg15 M => AG rfl (sx_seq (AC rfl (B2 M 4 rfl rfl rfl (DP rfl rfl (AG rfl (sx_block ?_)))))))
 refine flp [18, 17, 3, 1] (fun ze e wr mz => ∃ (i : Nat) (L : List (List UInt8 × Value)), e = (19, AA (i : Int)) :: ze ∧ Mem w AM [As.blk g15 199 [str m.id, str m.nm, .slice a.V m.vars.length a.vc, .slice a.E m.els.length a.ec, .slice a.F m.fls.length a.fc, .map (some g11), .map (some g12), .map (some g13)], As.mp g13 [], As.mp g12 [], As.mp g11 L, As.blk g1 62 (Md.cells m a)] wr ∧ (i ≤ m.els.length) ∧ (∀ k, BP L k = (B3 (m.els.take i) k).map elV) ∧ mz = m.els.length - i) ⟨0, [], rfl, M, Nat.zero_le _, fun _ => rfl, rfl⟩ ?_
 rintro _ w6 _ ⟨i, L, rfl, M, hi, hL, rfl⟩
 refine srg (BM rfl rfl (nq (sx_seq (AF rfl (fun h20 => ?_) (fun h20 => ?_)))))
 ·have h20p := (odt h20)
  refine sx_skip (qx_seq (sx_seq (sx_block (srg ?_))))
  obtain ⟨x, hx⟩ := BZ (l := m.els) (i := i) A0
  obtain ⟨b_x, o_x, hA_x⟩ := B7 (k := 11) A0 (M.rd hM.els) hx
  refine ya rfl (AP i hA_x rfl rfl rfl (sl rfl) A0) (ya rfl (AH rfl rfl (BB El.len (M.rd hM.els) hA_x hx) underlying95 rfl AK) (CO M rfl AQ fun g5 w7 hg5 M => C2 M 0 rfl rfl AK rfl fun w8 M => nq (sx_seq (I6 M 13 CL fun M => oc 0 13 rfl rfl M (oc 1 13 rfl rfl M (oc 2 13 rfl rfl M (ol 3 13 rfl rfl rfl M (fun _ M => (M.cell 1 rfl rfl)) (oc 4 13 rfl rfl M (ol 5 13 rfl rfl rfl M (fun _ M => (M.cell 0 rfl rfl)) ?_)))))))))
  refine oa 6 13 rfl rfl M (fun _ M => DI rfl rfl rfl underlying85 underlying9 AQ (M.mp 4 rfl) (elG hL _) (elI hL _)) (oc 7 13 rfl rfl M (oc 8 13 rfl rfl M (oc 9 13 rfl rfl M (fon M 10 6 rfl rfl AQ fun g6 w9 hg6 M => fop M 11 0 rfl rfl rfl AK rfl (·.drop 1) fun w10 M => oc 12 13 rfl rfl (M.drop 1) (fdn (qx_seq (AC rfl (AG rfl (AF rfl (fun h34 => ?_) (fun h34 => ?_))))))))))
  ·have h34p := (BY h34)
   refine DL 7 CL gkr ?_
   have M := M.drew
   refine sb rfl (sb rfl (sb rfl (GZ M 2 rfl rfl rfl (sb rfl (GZ M 1 rfl rfl rfl (sa rfl (AH (xs := El.cells x) rfl rfl (M.rdBlk 1 rfl rfl) underlying95 rfl AK) (CB (ES M 5 (wn_none rfl) rfl rfl rfl rfl rfl underlying85 underlying9 rfl fun w11 M => sxl_nil (qx_block_normal (qx_seq (sx_region (C1 rfl rfl (yb rfl ?_)))))))))))))
   refine sxl_nil (fag ⟨i + 1, CK L x.id (.agg (El.cells x).toArray), rfl, (M.pk [2, 3, 4, 5, 6]), ?_, ?_, rfl⟩)
   ·omega
   ·first
     | exact kT hL (AJ hx) h34
     | exact pX hL (AJ hx) h34
  ·have h34p := (BJ h34)
   refine sx_skip (qx_block_normal (qx_seq (sx_region (C1 rfl rfl (yb rfl (sxl_nil (fag ⟨i + 1, L, rfl, (M.pk [2, 3, 4, 5, 6]), ?_, ?_, rfl⟩)))))))
   ·omega
   ·first
     | exact kT hL (AJ hx) h34
     | exact pX hL (AJ hx) h34
 ·have h20p := (odf h20)
  refine sx_exit (qx_then_exit (qx_then_exit ?_))
  have hiE : i = m.els.length := by omega
  rw [hiE, List.take_length] at hL
  refine qx_block_hit (qx_seq (sx_seq (AC rfl (B2 M 4 rfl rfl rfl (DP rfl rfl (AG rfl (sx_block ?_)))))))
  have M := M.toFam 2 rfl 109 4 Fl.cells
  have M := M.toFam 1 rfl 109 4 Fl.cells
  refine flp [45, 44, 3] (fun ze e wr mz => ∃ (j : Nat) (LI : List (List UInt8 × Value)) (FI : List Nat) (LO : List (List UInt8 × Value)) (FO : List Nat), e = (46, AA (j : Int)) :: ze ∧ Mem w AM [As.blk g15 199 [str m.id, str m.nm, .slice a.V m.vars.length a.vc, .slice a.E m.els.length a.ec, .slice a.F m.fls.length a.fc, .map (some g11), .map (some g12), .map (some g13)], As.fam w.heap.size 109 4 Fl.cells g13 LO (BI (m.fls.take j)) (fun _ => False) FO, As.fam w.heap.size 109 4 Fl.cells g12 LI (DG (m.fls.take j)) (fun _ => False) FI, As.mp g11 L, As.blk g1 62 (Md.cells m a)] wr ∧ (j ≤ m.fls.length) ∧ mz = m.fls.length - j) ⟨0, [], [], [], [], rfl, M, Nat.zero_le _, rfl⟩ ?_
  rintro _ w12 _ ⟨j, LI, FI, LO, FO, rfl, M, hj, rfl⟩
  refine srg (BM rfl rfl (nq (sx_seq (AF rfl (fun h47 => ?_) (fun h47 => ?_)))))
  ·have h47p := (odt h47)
   refine sx_skip (qx_seq (sx_seq (sx_block (srg ?_))))
   obtain ⟨f, hf⟩ := BZ (l := m.fls) (i := j) A0
   obtain ⟨b_f, o_f, hA_f⟩ := B7 (k := 4) A0 (M.rd hM.fls) hf
   refine ya rfl (AP j hA_f rfl rfl rfl (sl rfl) A0) (ya rfl (AH rfl rfl (BB Fl.len (M.rd hM.fls) hA_f hf) underlying109 rfl C4) (CO M rfl E9 fun g9 w13 hg9 M => C2 M 0 rfl rfl C4 rfl fun w14 M => nq (sx_seq ?_)))
   obtain ⟨ARI, CRI, F1I, hvI, M⟩ := Mem.famTake (M.pk [3, 0, 1, 2, 4, 5]) f.tg
   have hbI : (DG (m.fls.take j) f.tg).length ≤ m.fls.length := dJ _ _ _
   refine EG 16 (fun w' => Mem w AM [As.fam w.heap.size 109 4 Fl.cells g12 LI (DG (m.fls.take j)) (fun k => k = f.tg) F1I, As.blk g9 109 (Fl.cells f), As.blk g15 199 [str m.id, str m.nm, .slice a.V m.vars.length a.vc, .slice a.E m.els.length a.ec, .slice a.F m.fls.length a.fc, .map (some g11), .map (some g12), .map (some g13)], As.fam w.heap.size 109 4 Fl.cells g13 LO (BI (m.fls.take j)) (fun _ => False) FO, As.mp g11 L, As.blk g1 62 (Md.cells m a)] w') CL ?_
   have M := M.drew
   refine oc 0 16 rfl rfl (M.pk [1, 2, 3, 4, 5, 6]) (oc 1 16 rfl rfl (M.pk [1, 2, 3, 4, 5, 6]) (oc 2 16 rfl rfl (M.pk [1, 2, 3, 4, 5, 6]) (ol 3 16 rfl rfl rfl (M.pk [1, 2, 3, 4, 5, 6]) (fun _ M => (M.cell 2 rfl rfl)) (oc 4 16 rfl rfl (M.pk [1, 2, 3, 4, 5, 6]) (ol 5 16 rfl rfl rfl (M.pk [1, 2, 3, 4, 5, 6]) (fun _ M => (M.cell 1 rfl rfl)) (oc 6 16 rfl rfl (M.pk [1, 2, 3, 4, 5, 6]) (oc 7 16 rfl rfl (M.pk [1, 2, 3, 4, 5, 6]) (oc 8 16 rfl rfl (M.pk [1, 2, 3, 4, 5, 6]) (ol 9 16 rfl rfl rfl (M.pk [1, 2, 3, 4, 5, 6]) (fun _ M => (M.cell 2 rfl rfl)) (oc 10 16 rfl rfl (M.pk [1, 2, 3, 4, 5, 6]) (ol 11 16 rfl rfl rfl (M.pk [1, 2, 3, 4, 5, 6]) (fun _ M => (M.cell 1 rfl rfl)) (oa 12 16 rfl rfl (M.pk [1, 2, 3, 4, 5, 6]) (fun _ M => BD rfl rfl rfl underlying197 underlying9 zr_sl_api_Flow (M.famMp 0 rfl) hvI) (oa 13 16 rfl rfl (M.pk [1, 2, 3, 4, 5, 6]) (fun _ M => AH (xs := Fl.cells f) rfl rfl (M.rdBlk 1 rfl rfl) underlying109 rfl C4) (AR 14 (some 64) gkr rfl (wn_none rfl) rfl rfl (fun ρ hρ => CM [.agg (Fl.cells f).toArray] _ hρ rfl rfl rfl rfl underlying60 KC AU AU (EZ rfl)) ?_))))))))))))))
   rintro _ w15 ⟨g64, rfl, hg64, hq64, hb64, hfw15⟩
   replace hb64 : Blk w15 g64 109 ((Fl.cells f)) := hb64
   refine ⟨fun _ => (M.pk [1, 2, 3, 4, 5, 6]).step hfw15, ?_⟩
   have M := M.push hfw15 _ hb64 (DF hg64 hq64)
   replace M : Mem w AM (As.blk g64 109 ((Fl.cells f)) :: _) w15 := M
   refine AR 15 (some 65) gkr rfl (wn_none rfl) rfl rfl (fun ρ hρ => BV _ _ _ rfl w.heap.size _ _ _ _ underlying60 JD rfl AU _ _ _ (hρ _ _ rfl) (M.own 1 rfl) _ _ _ _ (hρ _ _ rfl) (M.rdBlk 0 rfl rfl) ((Fl.cells_one _)) (by unfold maxLen; first | omega | (simp; omega)) CX M.fr.size) ?_
   rintro v65 w16 ⟨ho65, hgr65, hvb65⟩
   replace ho65 : World.ownsRow w16 w.heap.size 109 4 v65 (((DG (m.fls.take j) f.tg) ++ [f]).length) (AB Fl.cells ((DG (m.fls.take j) f.tg) ++ [f])) := by rw [show (((DG (m.fls.take j) f.tg) ++ [f]).length) = ((DG (m.fls.take j) f.tg).length) + 1 from by simp, show (AB Fl.cells ((DG (m.fls.take j) f.tg) ++ [f])) = (AB Fl.cells (DG (m.fls.take j) f.tg)) ++ (Fl.cells f) from by first | exact AT _ _ _ | simp [AB]]; exact ho65
   have M := M.appOwn 1 rfl ho65 hgr65 hvb65
   obtain ⟨A65, c65, rfl, _⟩ := CC ho65
   refine ⟨fun _ => (M.pk [2, 3, 4, 5, 6, 7]), AR 16 none gkr rfl (wn_none rfl) rfl rfl (fun ρ hρ => EJ rfl (hρ _ _ rfl) (hρ _ _ rfl) (hρ _ _ rfl) underlying197 underlying9 (M.famMp 2 rfl)) ?_⟩
   rintro _ w17 ⟨rfl, hfw17, hbw17⟩
   have M := M.putFam 2 rfl hfw17 hbw17
   refine ⟨fun h => absurd h AU, ?_⟩
   obtain ⟨F2I, M⟩ := Mem.famPut (M.pk [1, 2, 0, 3, 4, 5, 6, 7]) (by rw [IK, if_pos rfl]) rfl (DG (m.fls.take (j + 1))) (jU hf) (fun k hk => oH hf hk)
   refine fdn (qx_seq ?_)
   obtain ⟨ARO, CRO, F1O, hvO, M⟩ := Mem.famTake (M.pk [4, 0, 1, 2, 3, 5, 6]) f.frm
   have hbO : (BI (m.fls.take j) f.frm).length ≤ m.fls.length := YB _ _ _
   refine EG 16 (fun w' => Mem w AM [As.fam w.heap.size 109 4 Fl.cells g13 LO (BI (m.fls.take j)) (fun k => k = f.frm) F1O, As.fam w.heap.size 109 4 Fl.cells g12 (CK LI f.tg (.slice A65 (((DG (m.fls.take j) f.tg) ++ [f]).length) c65)) (DG (m.fls.take (j + 1))) (fun _ => False) F2I, As.blk g64 109 (Fl.cells f), As.blk g9 109 (Fl.cells f), As.blk g15 199 [str m.id, str m.nm, .slice a.V m.vars.length a.vc, .slice a.E m.els.length a.ec, .slice a.F m.fls.length a.fc, .map (some g11), .map (some g12), .map (some g13)], As.mp g11 L, As.blk g1 62 (Md.cells m a)] w') CL ?_
   have M := M.drew
   refine oc 0 16 rfl rfl (M.pk [1, 2, 3, 4, 5, 6, 7]) (oc 1 16 rfl rfl (M.pk [1, 2, 3, 4, 5, 6, 7]) (oc 2 16 rfl rfl (M.pk [1, 2, 3, 4, 5, 6, 7]) (ol 3 16 rfl rfl rfl (M.pk [1, 2, 3, 4, 5, 6, 7]) (fun _ M => (M.cell 4 rfl rfl)) (oc 4 16 rfl rfl (M.pk [1, 2, 3, 4, 5, 6, 7]) (ol 5 16 rfl rfl rfl (M.pk [1, 2, 3, 4, 5, 6, 7]) (fun _ M => (M.cell 3 rfl rfl)) (oc 6 16 rfl rfl (M.pk [1, 2, 3, 4, 5, 6, 7]) (oc 7 16 rfl rfl (M.pk [1, 2, 3, 4, 5, 6, 7]) (oc 8 16 rfl rfl (M.pk [1, 2, 3, 4, 5, 6, 7]) (ol 9 16 rfl rfl rfl (M.pk [1, 2, 3, 4, 5, 6, 7]) (fun _ M => (M.cell 4 rfl rfl)) (oc 10 16 rfl rfl (M.pk [1, 2, 3, 4, 5, 6, 7]) (ol 11 16 rfl rfl rfl (M.pk [1, 2, 3, 4, 5, 6, 7]) (fun _ M => (M.cell 3 rfl rfl)) (oa 12 16 rfl rfl (M.pk [1, 2, 3, 4, 5, 6, 7]) (fun _ M => BD rfl rfl rfl underlying197 underlying9 zr_sl_api_Flow (M.famMp 0 rfl) hvO) (oa 13 16 rfl rfl (M.pk [1, 2, 3, 4, 5, 6, 7]) (fun _ M => AH (xs := Fl.cells f) rfl rfl (M.rdBlk 3 rfl rfl) underlying109 rfl C4) (AR 14 (some 80) gkr rfl (wn_none rfl) rfl rfl (fun ρ hρ => CM [.agg (Fl.cells f).toArray] _ hρ rfl rfl rfl rfl underlying60 KC AU AU (EZ rfl)) ?_))))))))))))))
   rintro _ w18 ⟨g80, rfl, hg80, hq80, hb80, hfw18⟩
   replace hb80 : Blk w18 g80 109 ((Fl.cells f)) := hb80
   refine ⟨fun _ => (M.pk [1, 2, 3, 4, 5, 6, 7]).step hfw18, ?_⟩
   have M := M.push hfw18 _ hb80 (DF hg80 hq80)
   replace M : Mem w AM (As.blk g80 109 ((Fl.cells f)) :: _) w18 := M
   refine AR 15 (some 81) gkr rfl (wn_none rfl) rfl rfl (fun ρ hρ => BV _ _ _ rfl w.heap.size _ _ _ _ underlying60 JD rfl AU _ _ _ (hρ _ _ rfl) (M.own 1 rfl) _ _ _ _ (hρ _ _ rfl) (M.rdBlk 0 rfl rfl) ((Fl.cells_one _)) (by unfold maxLen; first | omega | (simp; omega)) CX M.fr.size) ?_
   rintro v81 w19 ⟨ho81, hgr81, hvb81⟩
   replace ho81 : World.ownsRow w19 w.heap.size 109 4 v81 (((BI (m.fls.take j) f.frm) ++ [f]).length) (AB Fl.cells ((BI (m.fls.take j) f.frm) ++ [f])) := by rw [show (((BI (m.fls.take j) f.frm) ++ [f]).length) = ((BI (m.fls.take j) f.frm).length) + 1 from by simp, show (AB Fl.cells ((BI (m.fls.take j) f.frm) ++ [f])) = (AB Fl.cells (BI (m.fls.take j) f.frm)) ++ (Fl.cells f) from by first | exact AT _ _ _ | simp [AB]]; exact ho81
   have M := M.appOwn 1 rfl ho81 hgr81 hvb81
   obtain ⟨A81, c81, rfl, _⟩ := CC ho81
   refine ⟨fun _ => (M.pk [2, 3, 4, 5, 6, 7, 8]), AR 16 none gkr rfl (wn_none rfl) rfl rfl (fun ρ hρ => EJ rfl (hρ _ _ rfl) (hρ _ _ rfl) (hρ _ _ rfl) underlying197 underlying9 (M.famMp 2 rfl)) ?_⟩
   rintro _ w20 ⟨rfl, hfw20, hbw20⟩
   have M := M.putFam 2 rfl hfw20 hbw20
   refine ⟨fun h => absurd h AU, ?_⟩
   obtain ⟨F2O, M⟩ := Mem.famPut (M.pk [1, 2, 0, 3, 4, 5, 6, 7, 8]) (by rw [IK, if_pos rfl]) rfl (BI (m.fls.take (j + 1))) (cK hf) (fun k hk => iQ hf hk)
   refine fdn (qx_block_normal (qx_seq (sx_region (C1 rfl rfl (yb rfl (sxl_nil (fag ⟨j + 1, (CK LI f.tg (.slice A65 (((DG (m.fls.take j) f.tg) ++ [f]).length) c65)), F2I, (CK LO f.frm (.slice A81 (((BI (m.fls.take j) f.frm) ++ [f]).length) c81)), F2O, rfl, (M.pk [5, 0, 2, 6, 7]), ?_, rfl⟩)))))))
   ·omega
  ·have h47p := (odf h47)
   refine sx_exit (qx_then_exit (qx_then_exit ?_))
   have hjE : j = m.fls.length := by omega
   rw [hjE, List.take_length] at M
   exact qx_block_hit (qx_seq (AC rfl (yb rfl (gnr (gr1 rfl (WS M hL))))))
end
end Go.Proofs.YtaheakjfkpkefaaGreatDoor
