/- Lemmas that the last text rests on. Condition: each says its own. -/
import Derived.Test.YtdaihdknnlphkaaGreatDoorZRu0
import Derived.Test.YtdaihdknnlphkaaGreatDoorZb8
set_option maxHeartbeats 16000000
set_option maxRecDepth 100000
namespace Go.Proofs.YtdaihdknnlphkaaGreatDoor
open Go.RowKit
open Tryz
theorem T5 (l : List El) (x : El) (k : List UInt8) : AO (l ++ [x]) k = match AO l k with
 | some y => some y
 | none => if x.id = k then some x else none := by
 induction l with
 | nil => rfl
 | cons y r ih =>
  rw [List.cons_append, AO, AO]
  by_cases h : y.id = k
  ·rw [if_pos h, if_pos h]
  ·rw [if_neg h, if_neg h]; exact ih
section
variable {L : List (List UInt8 × Value)} {l l' : List El} {x : El} (hL : ∀ k, D5 L k = (AO l k).map elV)
include hL
theorem elG (k : List UInt8) : (D5 L k).getD (.agg zeroEl.cells.toArray) = .agg ((AO l k).getD zeroEl).cells.toArray := by rw [hL]; cases AO l k <;> rfl
theorem elI (k : List UInt8) : (D5 L k).isSome = (AO l k).isSome := by rw [hL]; cases AO l k <;> rfl
theorem oM (hl : l' = l ++ [x]) (h : (!(AO l x.id).isSome) = true) : ∀ k, D5 (EW L x.id (.agg (El.cells x).toArray)) k = (AO l' k).map elV := fun k => by
 have hn : AO l x.id = none := by
  cases hq : AO l x.id with
  | none => rfl
  | some y => rw [hq] at h; cases h
 rw [IB, hl, T5]
 by_cases hk : k = x.id
 ·subst hk; rw [if_pos rfl, hn]; simp [elV]
 ·rw [if_neg hk, hL]
  cases AO l k with
  | some y => rfl
  | none => rw [if_neg (fun e => hk e.symm)]
theorem uE (hl : l' = l ++ [x]) (h : (!(AO l x.id).isSome) = false) : ∀ k, D5 L k = (AO l' k).map elV := fun k => by
 rw [hL, hl, T5]
 cases hq : AO l k with
 | some y => rfl
 | none =>
  have hk : ¬ x.id = k := fun e => by rw [e, hq] at h; cases h
  rw [if_neg hk]
end
theorem j3 (l : List Fl) (i : Nat) (k : List UInt8) : (D3 (l.take i) k).length ≤ l.length := Nat.le_trans (BS _ _) (by rw [List.length_take]; omega)
theorem aS (l : List Fl) (i : Nat) (k : List UInt8) : (BJ (l.take i) k).length ≤ l.length := Nat.le_trans (AQ _ _) (by rw [List.length_take]; omega)
section
variable {l : List Fl} {j : Nat} {f : Fl} {k : List UInt8} (hf : l[j]? = some f)
include hf
theorem nK : D3 (l.take (j + 1)) f.tg = D3 (l.take j) f.tg ++ [f] := by
 rw [B3 hf]; unfold D3; rw [List.filter_append]; simp
theorem sP (hk : k ≠ f.tg) : D3 (l.take (j + 1)) k = D3 (l.take j) k := by
 rw [B3 hf]; unfold D3; rw [List.filter_append]; simp [Ne.symm hk]
theorem iF : BJ (l.take (j + 1)) f.frm = BJ (l.take j) f.frm ++ [f] := by
 rw [B3 hf]; unfold BJ; rw [List.filter_append]; simp
theorem mI (hk : k ≠ f.frm) : BJ (l.take (j + 1)) k = BJ (l.take j) k := by
 rw [B3 hf]; unfold BJ; rw [List.filter_append]; simp [Ne.symm hk]
end
section
variable {w0 w w1 : World} {S : Nat → Prop} {L : List As}
theorem Mem.toFam {α : Type} (M : Mem w0 S L w) (i : Nat) {g : Nat} (hi : L[i]? = some (As.mp g [])) (e : TypeId) (size : Nat) (cells : α → List Value) : Mem w0 S (L.set i (As.fam w0.heap.size e size cells g [] (fun _ => []) (fun _ => False) [])) w :=
 M.upd i hi Fr.refl _ (Fam.new (M.mp i hi) _ _ _ _) (fun _ hg' => .inl hg')
theorem Mem.appOwn (M : Mem w0 S L w) (i : Nat) {base el size n n' : Nat} {v v' : Value} {xs xs' : List Value} (hi : L[i]? = some (As.own base el size v n xs)) (ho : w1.ownsRow base el size v' n' xs') (h2 : w.grownBy w1 v.ownBlock) (h3 : v'.ownBlock = v.ownBlock ∨ v'.ownBlock = some w.heap.size) : Mem w0 S (L.set i (As.own base el size v' n' xs')) w1 := by
 refine M.upd i hi ?_ _ ho ?_
 ·refine ⟨h2.os, h2.tape, h2.output, h2.size, fun g hg hn => h2.block g hg ?_⟩
  intro e
  exact hn (by simp [As.own, ← e])
 ·intro g hg
  rcases h3 with h | h
  ·left; simpa [As.own, h] using hg
  ·right
   have hg' : g = w.heap.size := by simpa [As.own, h, eq_comm] using hg
   have := (N2 ho g hg).2
   omega
end
def gV : Value → Option Addr
 | .slice A _ _ => A
 | _ => none
def vG : Value → Nat
 | .slice _ _ c => c
 | _ => 0
theorem Fam.val {α : Type} {w : World} {base size g : Nat} {e : TypeId} {cells : α → List Value} {L : List (List UInt8 × Value)} {rows : List UInt8 → List α} {F : List Nat} (h : Fam w base e size cells g L rows (fun _ => False) F) (k : List UInt8) :
 (D5 L k).getD (.slice none 0 0) = .slice (gV (HO L k)) (rows k).length (vG (HO L k)) ∧ Rd w (gV (HO L k)) ((rows k).length * size) (AS cells (rows k)) := by
 obtain ⟨ho, _⟩ := h.row k (fun hh => hh)
 obtain ⟨A, C, hv, _⟩ := G3 ho
 have hv' : (D5 L k).getD (.slice none 0 0) = .slice A (rows k).length C := hv
 rw [hv', hv]
 rw [hv] at ho
 exact ⟨rfl, OK ho⟩
structure IxN (w : World) (m : Md) (a : MdA) (x : IxA) (gx : Nat) (F : List Nat) : Prop where
 blk : Blk w gx 90 (Ix.cells m a x)
 E : Mp w x.gE x.LE
 I : Mp w x.gI x.LI
 O : Mp w x.gO x.LO
 getE : ∀ k, (D5 x.LE k).getD (.agg zeroEl.cells.toArray) = .agg ((AO m.els k).getD zeroEl).cells.toArray
 isE : ∀ k, (D5 x.LE k).isSome = (AO m.els k).isSome
 getI : ∀ k, (D5 x.LI k).getD (.slice none 0 0) = .slice (x.iA k) (D3 m.fls k).length (x.iC k)
 getO : ∀ k, (D5 x.LO k).getD (.slice none 0 0) = .slice (x.oA k) (BJ m.fls k).length (x.oC k)
 rdI : ∀ k, Rd w (x.iA k) ((D3 m.fls k).length * 4) (AS Fl.cells (D3 m.fls k))
 rdO : ∀ k, Rd w (x.oA k) ((BJ m.fls k).length * 4) (AS Fl.cells (BJ m.fls k))
 inF : gx ∈ F ∧ x.gE ∈ F ∧ x.gI ∈ F ∧ x.gO ∈ F
 inI : ∀ k b off p, x.iA k = some ⟨b, off, p⟩ → b ∈ F
 inO : ∀ k b off p, x.oA k = some ⟨b, off, p⟩ → b ∈ F
theorem J8 {w w' : World} {A : Option Addr} {n : Nat} {xs : List Value} {F : List Nat} (h : Rd w A n xs) (hk : ∀ g ∈ F, g < w.heap.size → w'.heap[g]? = w.heap[g]?) (hA : ∀ b off p, A = some ⟨b, off, p⟩ → b ∈ F) : Rd w' A n xs := by
 refine ⟨h.1, fun hn => ?_⟩
 obtain ⟨b, off, e, hc⟩ := h.2 hn
 refine ⟨b, off, e, fun j u hu => ?_⟩
 have h1 := hc j u hu
 have hl := World.block_lt_of_cell? w _ h1
 have h2 := hk b (hA b off none e) hl
 rw [← h1]
 unfold World.cell?
 simp only [h2]
theorem W9 {w w' : World} {g : Nat} {L : List (List UInt8 × Value)} {F : List Nat} (h : Mp w g L) (hk : ∀ g ∈ F, g < w.heap.size → w'.heap[g]? = w.heap[g]?) (hg : g ∈ F) : Mp w' g L := by
 obtain ⟨es, cl, h1, h2⟩ := h
 exact ⟨es, cl, (hk g hg (Array.getElem?_eq_some_iff.1 h1).1).trans h1, h2⟩
theorem IxN.keep {w w' : World} {m : Md} {a : MdA} {x : IxA} {gx : Nat} {F : List Nat} (hk : ∀ g ∈ F, g < w.heap.size → w'.heap[g]? = w.heap[g]?) (h : IxN w m a x gx F) : IxN w' m a x gx F :=
 ⟨(hk gx h.inF.1 h.blk.lt).trans h.blk, W9 h.E hk h.inF.2.1, W9 h.I hk h.inF.2.2.1, W9 h.O hk h.inF.2.2.2, h.getE, h.isE, h.getI, h.getO, fun k => J8 (h.rdI k) hk (h.inI k), fun k => J8 (h.rdO k) hk (h.inO k), h.inF, h.inI, h.inO⟩
def As.ixp (m : Md) (a : MdA) (x : IxA) (gx : Nat) (F : List Nat) : As := ⟨F, fun w => IxN w m a x gx F, fun h hb => hb.keep h⟩
theorem IxN.at {w : World} {m : Md} {a : MdA} {x : IxA} {gx : Nat} {F : List Nat} (h : IxN w m a x gx F) (hM : MdIn w m a) : IxAt w m a x gx :=
 ⟨hM, h.blk, h.E, h.I, h.O, h.getE, h.isE, h.getI, h.getO, h.rdI, h.rdO⟩
theorem Fam.blk {α : Type} {w : World} {base size g : Nat} {e : TypeId} {cells : α → List Value} {L : List (List UInt8 × Value)} {rows : List UInt8 → List α} {F : List Nat} (h : Fam w base e size cells g L rows (fun _ => False) F) (k : List UInt8) {b : Nat} (hA : (gV (HO L k)).map (fun a => a.block) = some b) : b ∈ F := by
 obtain ⟨ho, hF⟩ := h.row k (fun hh => hh)
 obtain ⟨A, C, hv, _⟩ := G3 ho
 refine hF b ?_
 rw [hv] at hA ⊢
 cases A with
 | none => cases hA
 | some q => simpa [gV, Value.ownBlock] using hA
theorem YL {m : Md} {a : MdA} {w w' : World} {g15 g13 g12 g11 : Nat} {L LI LO : List (List UInt8 × Value)} {FI FO : List Nat} {Ls : List As}
 (M : Mem w AD (As.blk g15 90 [str m.id, str m.nm, .slice a.V m.vars.length a.vc, .slice a.E m.els.length a.ec, .slice a.F m.fls.length a.fc, .map (some g11), .map (some g12), .map (some g13)] :: As.fam w.heap.size 41 4 Fl.cells g13 LO (BJ m.fls) (fun _ => False) FO :: As.fam w.heap.size 41 4 Fl.cells g12 LI (D3 m.fls) (fun _ => False) FI :: As.mp g11 L :: Ls) w')
 (hL : ∀ k, D5 L k = (AO m.els k).map elV) :
 ∃ ix gx F, Ending.returned (pg g15) = .returned (pg gx) ∧ IxN w' m a ix gx F ∧ (∀ g ∈ F, w.heap.size ≤ g ∧ g < w'.heap.size) ∧ Fr0 w w' := by
 have hO : Fam w' w.heap.size 41 4 Fl.cells g13 LO (BJ m.fls) (fun _ => False) FO := M.ok 1 _ rfl
 have hI : Fam w' w.heap.size 41 4 Fl.cells g12 LI (D3 m.fls) (fun _ => False) FI := M.ok 2 _ rfl
 refine ⟨⟨g11, g12, g13, L, LI, LO, fun k => gV (HO LI k), fun k => vG (HO LI k), fun k => gV (HO LO k), fun k => vG (HO LO k)⟩, g15, g15 :: g11 :: ((g12 :: FI) ++ (g13 :: FO)), rfl,
  ⟨M.blk 0 rfl, M.mp 3 rfl, hI.map, hO.map, elG hL, elI hL, fun k => (hI.val k).1, fun k => (hO.val k).1, fun k => (hI.val k).2, fun k => (hO.val k).2, ⟨by simp, by simp, by simp, by simp⟩, ?_, ?_⟩, ?_, M.fr⟩
 ·intro k b off p hA
  have := hI.blk k (b := b) (by simp only at hA; rw [hA]; rfl)
  simp [this]
 ·intro k b off p hA
  have := hO.blk k (b := b) (by simp only at hA; rw [hA]; rfl)
  simp [this]
 ·intro g hg
  rcases List.mem_cons.1 hg with rfl | hg
  ·exact M.new0 0 rfl _ (by simp [As.blk])
  ·rcases List.mem_cons.1 hg with rfl | hg
   ·exact M.new0 3 rfl _ (by simp [As.mp])
   ·rcases List.mem_append.1 hg with hg | hg
    ·exact M.new0 2 rfl g hg
    ·exact M.new0 1 rfl g hg
theorem KQ (c0_0 c0_1 c0_2 c0_3 c0_4 : Value) (a1 : Option Nat) (a2 : Option Nat) (a3 : Option Nat) : prog.built 90 [(0, .agg #[c0_0, c0_1, c0_2, c0_3, c0_4]), (1, .map a1), (2, .map a2), (3, .map a3)] = some #[c0_0, c0_1, c0_2, c0_3, c0_4, .map a1, .map a2, .map a3] := by kernel_rfl
theorem JK : (prog.info? 41).map (fun i => (i.zero, i.size, i.bytes)) = some (some (.agg #[str [], str [], str [], str []]), 4, 64) := by kernel_rfl
theorem O0 : (prog.info? 41).map (fun i => (i.zero, i.size)) = some (some (.agg #[str [], str [], str [], str []]), 4) := by kernel_rfl
theorem zr_sl_api_Flow : (prog.info? 24).map (·.zero) = some (some (.slice none 0 0)) := by kernel_rfl
theorem SN (m : Md) (a : MdA) (w : World) (ho : MdOk m) (hM : MdIn w m a) :
 Calls prog 22 #[.agg (Md.cells m a).toArray] w fun e w' => ∃ ix gx F, e = .returned (pg gx) ∧ IxN w' m a ix gx F ∧ (∀ g ∈ F, w.heap.size ≤ g ∧ g < w'.heap.size) ∧ Fr0 w w' := by
 have hne := ho.nels
 have hnf := ho.nfls
 refine AJ (vs := [_]) func22 rfl ntmps22 rfl ?_
 have M := CN w
 refine A9 (A0 (B4 M (AA rfl) rfl rfl 26 rfl rfl (Md.cells m a) rfl fun g1 w1 hg1 M => yb rfl (A4 (A5 (A9 (A0 (ya rfl (AU (xs := Md.cells m a) rfl rfl (M.rdBlk 0 rfl rfl) underlying26 rfl BC) (J3 M (AA rfl) rfl rfl rfl fun g11 w2 hg11 M => J3 M (AA rfl) rfl rfl rfl fun g12 w3 hg12 M => J3 M (AA rfl) rfl rfl rfl fun g13 w4 hg13 M => ?_))))))))
 refine ya rfl (BU (parts := [(0, _), (1, _), (2, _), (3, _)]) rfl rfl (KQ _ _ _ _ _ _ _ _)) (B4 M (AA rfl) rfl rfl 90 rfl rfl ([str m.id, str m.nm, .slice a.V m.vars.length a.vc, .slice a.E m.els.length a.ec, .slice a.F m.fls.length a.fc, .map (some g11), .map (some g12), .map (some g13)]) rfl fun g15 w5 hg15 M => yb rfl (A4 (A5 (A9 (A9 (A0 (yb rfl (yl rfl rfl (M.cell 4 rfl rfl) (ya rfl (CS rfl rfl (sl rfl)) (yb rfl (A4 (A5 (AV ?_)))))))))))))
 refine CL (fun e wr mz => ∃ (i : Nat) (L : List (List UInt8 × Value)), e = [(1, pg g1), (3, pg g15), (17, .slice a.E m.els.length a.ec), (18, .int .i64 ((m.els.length : Nat) : Int)), (19, .int .i64 ((i : Nat) : Int))] ∧ Mem w AD [As.blk g15 90 [str m.id, str m.nm, .slice a.V m.vars.length a.vc, .slice a.E m.els.length a.ec, .slice a.F m.fls.length a.fc, .map (some g11), .map (some g12), .map (some g13)], As.mp g13 [], As.mp g12 [], As.mp g11 L, As.blk g1 26 (Md.cells m a)] wr ∧ (i ≤ m.els.length) ∧ (∀ k, D5 L k = (AO (m.els.take i) k).map elV) ∧ mz = m.els.length - i) ⟨0, [], rfl, M, Nat.zero_le _, fun _ => rfl, rfl⟩ ⟨rfl, rfl, rfl, rfl, rfl, trivial⟩ ?_
 rintro _ w6 _ ⟨i, L, rfl, M, hi, hL, rfl⟩
 refine A9 (A0 (ya rfl (CB rfl rfl rfl) (A4 (A5 (A9 (AT (b := (decide (((i : Nat) : Int) < ((m.els.length : Nat) : Int)))) rfl (fun h20 => ?_) (fun h20 => ?_)))))))
 ·have h20p := (odt h20)
  refine AN (A5 (A9 (AV (A9 (A0 ?_)))))
  obtain ⟨x, hx⟩ := DA (l := m.els) (i := i) (by omega)
  obtain ⟨b_x, o_x, hA_x⟩ := C7 (k := 11) (by omega) (M.rd hM.els) hx
  refine ya rfl (BM i hA_x rfl rfl rfl (sl rfl) (by omega)) (ya rfl (AU rfl rfl (DD El.len (M.rd hM.els) hA_x hx) underlying39 rfl AP) (BI M (AA rfl) rfl rfl 39 rfl [str [], str [], .int .u8 0, str [], str [], str [], .int .u8 0, str [], str [], .int .i64 0, .int .i64 0] B7 rfl fun g5 w7 hg5 M => B8 (cs' := (El.cells x)) M 0 (AA rfl) rfl rfl rfl rfl rfl AP rfl (AI rfl) (AY rfl) rfl fun w8 M => A4 (A5 (A9 (DB 13 (fun w' => Mem w AD [As.blk g5 39 (El.cells x), As.blk g15 90 [str m.id, str m.nm, .slice a.V m.vars.length a.vc, .slice a.E m.els.length a.ec, .slice a.F m.fls.length a.fc, .map (some g11), .map (some g12), .map (some g13)], As.mp g13 [], As.mp g12 [], As.mp g11 L, As.blk g1 26 (Md.cells m a)] w') DV ?_)))))
  have M := M.drew
  refine oc 0 13 rfl rfl M (oc 1 13 rfl rfl M (oc 2 13 rfl rfl M (ol 3 13 rfl rfl rfl M (fun _ M => (M.cell 1 rfl rfl)) (oc 4 13 rfl rfl M (ol 5 13 rfl rfl rfl M (fun _ M => (M.cell 0 rfl rfl)) (oa 6 13 rfl rfl M (fun _ M => DH rfl rfl rfl underlying87 underlying9 B7 (M.mp 4 rfl) (elG hL _) (elI hL _)) (oc 7 13 rfl rfl M (oc 8 13 rfl rfl M (oc 9 13 rfl rfl M (BG 10 (some 6) (by kernel_rfl) rfl (AA rfl) rfl rfl (fun ρ hρ => C6 39 rfl _ [str [], str [], .int .u8 0, str [], str [], str [], .int .u8 0, str [], str [], .int .i64 0, .int .i64 0] B7 rfl) ?_))))))))))
  rintro _ w9 ⟨g6, rfl, hg6, hq6, hb6, hfw9⟩
  refine ⟨fun _ => M.step hfw9, ?_⟩
  have M := M.push hfw9 _ hb6 (DX hg6 hq6)
  replace M : Mem w AD (As.blk g6 39 [str [], str [], .int .u8 0, str [], str [], str [], .int .u8 0, str [], str [], .int .i64 0, .int .i64 0] :: _) w9 := M
  refine BG 11 none (by kernel_rfl) rfl (AA rfl) rfl rfl (fun ρ hρ => BW 39 _ _ rfl g6 0 39 _ (El.cells ((AO (m.els.take i) x.id).getD zeroEl)) (hρ _ _ rfl) (hρ _ _ rfl) (M.blk 0 rfl) AP (AI rfl) (AY rfl)) ?_
  rintro _ w10 ⟨rfl, hbw10, hfw10⟩
  replace M : Mem w AD (List.set _ 0 (As.blk g6 39 (El.cells ((AO (m.els.take i) x.id).getD zeroEl)))) w10 := M.putB 0 rfl hbw10 hfw10
  refine ⟨fun _ => M.drop 1, oc 12 13 rfl rfl (M.drop 1) (BN (by kernel_rfl) (A5 (A9 (A0 (yb rfl (yb rfl (A4 (A5 (AT (b := (!(AO (m.els.take i) x.id).isSome)) rfl (fun h34 => ?_) (fun h34 => ?_))))))))))⟩
  ·have h34p := (C4 h34)
   refine GC 7 DV (by kernel_rfl) ?_
   have M := M.drew
   refine sb rfl (sb rfl (sb rfl (sd rfl rfl (M.cell 2 rfl rfl) (sb rfl (sd rfl rfl (M.cell 1 rfl rfl) (sa rfl (AU (xs := El.cells x) rfl rfl (M.rdBlk 1 rfl rfl) underlying39 rfl AP) (E9 (FR M 5 (AA rfl) rfl rfl rfl rfl rfl underlying87 underlying9 rfl fun w11 M => A4 (AC (A5 (A0 (ya rfl (CI rfl rfl rfl (by omega)) (yb rfl ?_)))))))))))))
   refine A4 (BF [(1, pg g1), (3, pg g15), (17, .slice a.E m.els.length a.ec), (18, .int .i64 ((m.els.length : Nat) : Int)), (19, .int .i64 (((i + 1) : Nat) : Int))] (m.els.length - (i + 1)) ⟨i + 1, EW L x.id (.agg (El.cells x).toArray), rfl, (M.pk [2, 3, 4, 5, 6]), ?_, ?_, rfl⟩ (by first | omega | (simp <;> omega)) ⟨rfl, rfl, rfl, rfl, rfl, trivial⟩)
   ·omega
   ·first
     | exact oM hL (B3 hx) h34
     | exact uE hL (B3 hx) h34
  ·have h34p := (C5 h34)
   refine AN (AC (A5 (A0 (ya rfl (CI rfl rfl rfl (by omega)) (yb rfl (A4 (BF [(1, pg g1), (3, pg g15), (17, .slice a.E m.els.length a.ec), (18, .int .i64 ((m.els.length : Nat) : Int)), (19, .int .i64 (((i + 1) : Nat) : Int))] (m.els.length - (i + 1)) ⟨i + 1, L, rfl, (M.pk [2, 3, 4, 5, 6]), ?_, ?_, rfl⟩ (by first | omega | (simp <;> omega)) ⟨rfl, rfl, rfl, rfl, rfl, trivial⟩)))))))
   ·omega
   ·first
     | exact oM hL (B3 hx) h34
     | exact uE hL (B3 hx) h34
 ·have h20p := (odf h20)
  refine C2 (AG (AG ?_))
  have hiE : i = m.els.length := by omega
  rw [hiE, List.take_length] at hL
  refine B5 (A5 (A9 (A9 (A0 (yb rfl (yl rfl rfl (M.cell 4 rfl rfl) (ya rfl (CS rfl rfl (sl rfl)) (yb rfl (A4 (A5 (AV ?_)))))))))))
  have M := M.toFam 2 rfl 41 4 Fl.cells
  have M := M.toFam 1 rfl 41 4 Fl.cells
  refine CL (fun e wr mz => ∃ (j : Nat) (LI : List (List UInt8 × Value)) (FI : List Nat) (LO : List (List UInt8 × Value)) (FO : List Nat), e = [(3, pg g15), (44, .slice a.F m.fls.length a.fc), (45, .int .i64 ((m.fls.length : Nat) : Int)), (46, .int .i64 ((j : Nat) : Int))] ∧ Mem w AD [As.blk g15 90 [str m.id, str m.nm, .slice a.V m.vars.length a.vc, .slice a.E m.els.length a.ec, .slice a.F m.fls.length a.fc, .map (some g11), .map (some g12), .map (some g13)], As.fam w.heap.size 41 4 Fl.cells g13 LO (BJ (m.fls.take j)) (fun _ => False) FO, As.fam w.heap.size 41 4 Fl.cells g12 LI (D3 (m.fls.take j)) (fun _ => False) FI, As.mp g11 L, As.blk g1 26 (Md.cells m a)] wr ∧ (j ≤ m.fls.length) ∧ mz = m.fls.length - j) ⟨0, [], [], [], [], rfl, M, Nat.zero_le _, rfl⟩ ⟨rfl, rfl, rfl, rfl, trivial⟩ ?_
  rintro _ w12 _ ⟨j, LI, FI, LO, FO, rfl, M, hj, rfl⟩
  refine A9 (A0 (ya rfl (CB rfl rfl rfl) (A4 (A5 (A9 (AT (b := (decide (((j : Nat) : Int) < ((m.fls.length : Nat) : Int)))) rfl (fun h47 => ?_) (fun h47 => ?_)))))))
  ·have h47p := (odt h47)
   refine AN (A5 (A9 (AV (A9 (A0 ?_)))))
   obtain ⟨f, hf⟩ := DA (l := m.fls) (i := j) (by omega)
   obtain ⟨b_f, o_f, hA_f⟩ := C7 (k := 4) (by omega) (M.rd hM.fls) hf
   refine ya rfl (BM j hA_f rfl rfl rfl (sl rfl) (by omega)) (ya rfl (AU rfl rfl (DD Fl.len (M.rd hM.fls) hA_f hf) underlying41 rfl C8) (BI M (AA rfl) rfl rfl 41 rfl [str [], str [], str [], str []] FW rfl fun g9 w13 hg9 M => B8 (cs' := (Fl.cells f)) M 0 (AA rfl) rfl rfl rfl rfl rfl C8 rfl (AI rfl) (AY rfl) rfl fun w14 M => A4 (A5 (A9 ?_))))
   obtain ⟨ARI, CRI, F1I, hvI, M⟩ := Mem.famTake (M.pk [3, 0, 1, 2, 4, 5]) f.tg
   have hbI : (D3 (m.fls.take j) f.tg).length ≤ m.fls.length := j3 _ _ _
   refine DB 16 (fun w' => Mem w AD [As.fam w.heap.size 41 4 Fl.cells g12 LI (D3 (m.fls.take j)) (fun k => k = f.tg) F1I, As.blk g9 41 (Fl.cells f), As.blk g15 90 [str m.id, str m.nm, .slice a.V m.vars.length a.vc, .slice a.E m.els.length a.ec, .slice a.F m.fls.length a.fc, .map (some g11), .map (some g12), .map (some g13)], As.fam w.heap.size 41 4 Fl.cells g13 LO (BJ (m.fls.take j)) (fun _ => False) FO, As.mp g11 L, As.blk g1 26 (Md.cells m a)] w') DV ?_
   have M := M.drew
   refine oc 0 16 rfl rfl (M.pk [1, 2, 3, 4, 5, 6]) (oc 1 16 rfl rfl (M.pk [1, 2, 3, 4, 5, 6]) (oc 2 16 rfl rfl (M.pk [1, 2, 3, 4, 5, 6]) (ol 3 16 rfl rfl rfl (M.pk [1, 2, 3, 4, 5, 6]) (fun _ M => (M.cell 2 rfl rfl)) (oc 4 16 rfl rfl (M.pk [1, 2, 3, 4, 5, 6]) (ol 5 16 rfl rfl rfl (M.pk [1, 2, 3, 4, 5, 6]) (fun _ M => (M.cell 1 rfl rfl)) (oc 6 16 rfl rfl (M.pk [1, 2, 3, 4, 5, 6]) (oc 7 16 rfl rfl (M.pk [1, 2, 3, 4, 5, 6]) (oc 8 16 rfl rfl (M.pk [1, 2, 3, 4, 5, 6]) (ol 9 16 rfl rfl rfl (M.pk [1, 2, 3, 4, 5, 6]) (fun _ M => (M.cell 2 rfl rfl)) (oc 10 16 rfl rfl (M.pk [1, 2, 3, 4, 5, 6]) (ol 11 16 rfl rfl rfl (M.pk [1, 2, 3, 4, 5, 6]) (fun _ M => (M.cell 1 rfl rfl)) (oa 12 16 rfl rfl (M.pk [1, 2, 3, 4, 5, 6]) (fun _ M => CK rfl rfl rfl underlying88 underlying9 zr_sl_api_Flow (M.famMp 0 rfl) hvI) (oa 13 16 rfl rfl (M.pk [1, 2, 3, 4, 5, 6]) (fun _ M => AU (xs := Fl.cells f) rfl rfl (M.rdBlk 1 rfl rfl) underlying41 rfl C8) (BG 14 (some 64) (by kernel_rfl) rfl (AA rfl) rfl rfl (fun ρ hρ => GZ [.agg (Fl.cells f).toArray] _ hρ rfl rfl rfl rfl underlying24 O0 (by decide) (by decide) (IK rfl)) ?_))))))))))))))
   rintro _ w15 ⟨g64, rfl, hg64, hq64, hb64, hfw15⟩
   replace hb64 : Blk w15 g64 41 ((Fl.cells f)) := hb64
   refine ⟨fun _ => (M.pk [1, 2, 3, 4, 5, 6]).step hfw15, ?_⟩
   have M := M.push hfw15 _ hb64 (DX hg64 hq64)
   replace M : Mem w AD (As.blk g64 41 ((Fl.cells f)) :: _) w15 := M
   refine BG 15 (some 65) (by kernel_rfl) rfl (AA rfl) rfl rfl (fun ρ hρ => GJ _ _ _ rfl w.heap.size _ _ _ _ underlying24 JK rfl (by decide) _ _ _ (hρ _ _ rfl) (M.own 1 rfl) _ _ _ _ (hρ _ _ rfl) (M.rdBlk 0 rfl rfl) ((Fl.cells_one _)) (by unfold maxLen; first | omega | (simp only [List.length_append, List.length_cons, List.length_nil]; omega)) (by first | omega | (simp <;> omega)) M.fr.size) ?_
   rintro v65 w16 ⟨ho65, hgr65, hvb65⟩
   replace ho65 : World.ownsRow w16 w.heap.size 41 4 v65 (((D3 (m.fls.take j) f.tg) ++ [f]).length) (AS Fl.cells ((D3 (m.fls.take j) f.tg) ++ [f])) := by rw [show (((D3 (m.fls.take j) f.tg) ++ [f]).length) = ((D3 (m.fls.take j) f.tg).length) + 1 from by simp, show (AS Fl.cells ((D3 (m.fls.take j) f.tg) ++ [f])) = (AS Fl.cells (D3 (m.fls.take j) f.tg)) ++ (Fl.cells f) from by simp [AS]]; exact ho65
   have M := M.appOwn 1 rfl ho65 hgr65 hvb65
   obtain ⟨A65, c65, rfl, _⟩ := G3 ho65
   refine ⟨fun _ => (M.pk [2, 3, 4, 5, 6, 7]), BG 16 none (by kernel_rfl) rfl (AA rfl) rfl rfl (fun ρ hρ => GI rfl (hρ _ _ rfl) (hρ _ _ rfl) (hρ _ _ rfl) underlying88 underlying9 (M.famMp 2 rfl)) ?_⟩
   rintro _ w17 ⟨rfl, hfw17, hbw17⟩
   have M := M.putFam 2 rfl hfw17 hbw17
   refine ⟨fun h => absurd h (by decide), ?_⟩
   obtain ⟨F2I, M⟩ := Mem.famPut (M.pk [1, 2, 0, 3, 4, 5, 6, 7]) (by rw [LA, if_pos rfl]) rfl (D3 (m.fls.take (j + 1))) (nK hf) (fun k hk => sP hf hk)
   refine BN (by kernel_rfl) (A5 ?_)
   obtain ⟨ARO, CRO, F1O, hvO, M⟩ := Mem.famTake (M.pk [4, 0, 1, 2, 3, 5, 6]) f.frm
   have hbO : (BJ (m.fls.take j) f.frm).length ≤ m.fls.length := aS _ _ _
   refine DB 16 (fun w' => Mem w AD [As.fam w.heap.size 41 4 Fl.cells g13 LO (BJ (m.fls.take j)) (fun k => k = f.frm) F1O, As.fam w.heap.size 41 4 Fl.cells g12 (EW LI f.tg (.slice A65 (((D3 (m.fls.take j) f.tg) ++ [f]).length) c65)) (D3 (m.fls.take (j + 1))) (fun _ => False) F2I, As.blk g64 41 (Fl.cells f), As.blk g9 41 (Fl.cells f), As.blk g15 90 [str m.id, str m.nm, .slice a.V m.vars.length a.vc, .slice a.E m.els.length a.ec, .slice a.F m.fls.length a.fc, .map (some g11), .map (some g12), .map (some g13)], As.mp g11 L, As.blk g1 26 (Md.cells m a)] w') DV ?_
   have M := M.drew
   refine oc 0 16 rfl rfl (M.pk [1, 2, 3, 4, 5, 6, 7]) (oc 1 16 rfl rfl (M.pk [1, 2, 3, 4, 5, 6, 7]) (oc 2 16 rfl rfl (M.pk [1, 2, 3, 4, 5, 6, 7]) (ol 3 16 rfl rfl rfl (M.pk [1, 2, 3, 4, 5, 6, 7]) (fun _ M => (M.cell 4 rfl rfl)) (oc 4 16 rfl rfl (M.pk [1, 2, 3, 4, 5, 6, 7]) (ol 5 16 rfl rfl rfl (M.pk [1, 2, 3, 4, 5, 6, 7]) (fun _ M => (M.cell 3 rfl rfl)) (oc 6 16 rfl rfl (M.pk [1, 2, 3, 4, 5, 6, 7]) (oc 7 16 rfl rfl (M.pk [1, 2, 3, 4, 5, 6, 7]) (oc 8 16 rfl rfl (M.pk [1, 2, 3, 4, 5, 6, 7]) (ol 9 16 rfl rfl rfl (M.pk [1, 2, 3, 4, 5, 6, 7]) (fun _ M => (M.cell 4 rfl rfl)) (oc 10 16 rfl rfl (M.pk [1, 2, 3, 4, 5, 6, 7]) (ol 11 16 rfl rfl rfl (M.pk [1, 2, 3, 4, 5, 6, 7]) (fun _ M => (M.cell 3 rfl rfl)) (oa 12 16 rfl rfl (M.pk [1, 2, 3, 4, 5, 6, 7]) (fun _ M => CK rfl rfl rfl underlying88 underlying9 zr_sl_api_Flow (M.famMp 0 rfl) hvO) (oa 13 16 rfl rfl (M.pk [1, 2, 3, 4, 5, 6, 7]) (fun _ M => AU (xs := Fl.cells f) rfl rfl (M.rdBlk 3 rfl rfl) underlying41 rfl C8) (BG 14 (some 80) (by kernel_rfl) rfl (AA rfl) rfl rfl (fun ρ hρ => GZ [.agg (Fl.cells f).toArray] _ hρ rfl rfl rfl rfl underlying24 O0 (by decide) (by decide) (IK rfl)) ?_))))))))))))))
   rintro _ w18 ⟨g80, rfl, hg80, hq80, hb80, hfw18⟩
   replace hb80 : Blk w18 g80 41 ((Fl.cells f)) := hb80
   refine ⟨fun _ => (M.pk [1, 2, 3, 4, 5, 6, 7]).step hfw18, ?_⟩
   have M := M.push hfw18 _ hb80 (DX hg80 hq80)
   replace M : Mem w AD (As.blk g80 41 ((Fl.cells f)) :: _) w18 := M
   refine BG 15 (some 81) (by kernel_rfl) rfl (AA rfl) rfl rfl (fun ρ hρ => GJ _ _ _ rfl w.heap.size _ _ _ _ underlying24 JK rfl (by decide) _ _ _ (hρ _ _ rfl) (M.own 1 rfl) _ _ _ _ (hρ _ _ rfl) (M.rdBlk 0 rfl rfl) ((Fl.cells_one _)) (by unfold maxLen; first | omega | (simp only [List.length_append, List.length_cons, List.length_nil]; omega)) (by first | omega | (simp <;> omega)) M.fr.size) ?_
   rintro v81 w19 ⟨ho81, hgr81, hvb81⟩
   replace ho81 : World.ownsRow w19 w.heap.size 41 4 v81 (((BJ (m.fls.take j) f.frm) ++ [f]).length) (AS Fl.cells ((BJ (m.fls.take j) f.frm) ++ [f])) := by rw [show (((BJ (m.fls.take j) f.frm) ++ [f]).length) = ((BJ (m.fls.take j) f.frm).length) + 1 from by simp, show (AS Fl.cells ((BJ (m.fls.take j) f.frm) ++ [f])) = (AS Fl.cells (BJ (m.fls.take j) f.frm)) ++ (Fl.cells f) from by simp [AS]]; exact ho81
   have M := M.appOwn 1 rfl ho81 hgr81 hvb81
   obtain ⟨A81, c81, rfl, _⟩ := G3 ho81
   refine ⟨fun _ => (M.pk [2, 3, 4, 5, 6, 7, 8]), BG 16 none (by kernel_rfl) rfl (AA rfl) rfl rfl (fun ρ hρ => GI rfl (hρ _ _ rfl) (hρ _ _ rfl) (hρ _ _ rfl) underlying88 underlying9 (M.famMp 2 rfl)) ?_⟩
   rintro _ w20 ⟨rfl, hfw20, hbw20⟩
   have M := M.putFam 2 rfl hfw20 hbw20
   refine ⟨fun h => absurd h (by decide), ?_⟩
   obtain ⟨F2O, M⟩ := Mem.famPut (M.pk [1, 2, 0, 3, 4, 5, 6, 7, 8]) (by rw [LA, if_pos rfl]) rfl (BJ (m.fls.take (j + 1))) (iF hf) (fun k hk => mI hf hk)
   refine BN (by kernel_rfl) (AC (A5 (A0 (ya rfl (CI rfl rfl rfl (by omega)) (yb rfl (A4 (BF [(3, pg g15), (44, .slice a.F m.fls.length a.fc), (45, .int .i64 ((m.fls.length : Nat) : Int)), (46, .int .i64 (((j + 1) : Nat) : Int))] (m.fls.length - (j + 1)) ⟨j + 1, (EW LI f.tg (.slice A65 (((D3 (m.fls.take j) f.tg) ++ [f]).length) c65)), F2I, (EW LO f.frm (.slice A81 (((BJ (m.fls.take j) f.frm) ++ [f]).length) c81)), F2O, rfl, (M.pk [5, 0, 2, 6, 7]), ?_, rfl⟩ (by first | omega | (simp <;> omega)) ⟨rfl, rfl, rfl, rfl, trivial⟩)))))))
   ·omega
  ·have h47p := (odf h47)
   refine C2 (AG (AG ?_))
   have hjE : j = m.fls.length := by omega
   rw [hjE, List.take_length] at M
   exact B5 (A5 (A9 (A0 (yb rfl (yb rfl (A4 (A5 (AF (AK rfl rfl (YL M hL))))))))))
end Go.Proofs.YtdaihdknnlphkaaGreatDoor
