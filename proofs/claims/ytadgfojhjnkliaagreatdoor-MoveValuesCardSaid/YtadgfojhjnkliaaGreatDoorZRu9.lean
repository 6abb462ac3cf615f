/- The index of a model: printed by gw/ru9.py. Condition: none. -/
import Derived.Test.YtadgfojhjnkliaaGreatDoorZRu0
import Derived.Test.YtadgfojhjnkliaaGreatDoorZb6
import Derived.Test.YtadgfojhjnkliaaGreatDoorZb8
set_option maxHeartbeats 16000000
set_option maxRecDepth 100000
namespace Go.Proofs.YtadgfojhjnkliaaGreatDoor
open Go.RowKit
theorem RE (l : List El) (x : El) (k : List UInt8) : AT (l ++ [x]) k = match AT l k with
 | some y => some y
 | none => if x.id = k then some x else none := by
 induction l with
 | nil => rfl
 | cons y r ih =>
  rw [List.cons_append, AT, AT]
  by_cases h : y.id = k
  ·rw [if_pos h, if_pos h]
  ·rw [if_neg h, if_neg h]; exact ih
section
variable {L : List (List UInt8 × Value)} {l l' : List El} {x : El} (hL : ∀ k, CG L k = (AT l k).map elV)
include hL
theorem elG (k : List UInt8) : (CG L k).getD (.agg zeroEl.cells.toArray) = .agg ((AT l k).getD zeroEl).cells.toArray := by rw [hL]; cases AT l k <;> rfl
theorem elI (k : List UInt8) : (CG L k).isSome = (AT l k).isSome := by rw [hL]; cases AT l k <;> rfl
theorem kH (hl : l' = l ++ [x]) (h : (!(AT l x.id).isSome) = true) : ∀ k, CG (CV L x.id (.agg (El.cells x).toArray)) k = (AT l' k).map elV := fun k => by
 have hn : AT l x.id = none := by
  cases hq : AT l x.id with
  | none => rfl
  | some y => rw [hq] at h; cases h
 rw [FM, hl, RE]
 by_cases hk : k = x.id
 ·subst hk; rw [if_pos rfl, hn]; simp [elV]
 ·rw [if_neg hk, hL]
  cases AT l k with
  | some y => rfl
  | none => rw [if_neg (fun e => hk e.symm)]
theorem pI (hl : l' = l ++ [x]) (h : (!(AT l x.id).isSome) = false) : ∀ k, CG L k = (AT l' k).map elV := fun k => by
 rw [hL, hl, RE]
 cases hq : AT l k with
 | some y => rfl
 | none =>
  have hk : ¬ x.id = k := fun e => by rw [e, hq] at h; cases h
  rw [if_neg hk]
end
theorem dX (l : List Fl) (i : Nat) (k : List UInt8) : (DD (l.take i) k).length ≤ l.length := Nat.le_trans (EY _ _) (by rw [List.length_take]; omega)
theorem Y2 (l : List Fl) (i : Nat) (k : List UInt8) : (BN (l.take i) k).length ≤ l.length := Nat.le_trans (DM _ _) (by rw [List.length_take]; omega)
section
variable {l : List Fl} {j : Nat} {f : Fl} {k : List UInt8} (hf : l[j]? = some f)
include hf
theorem j8 : DD (l.take (j + 1)) f.tg = DD (l.take j) f.tg ++ [f] := by
 rw [BK hf]; unfold DD; rw [List.filter_append]; simp
theorem o1 (hk : k ≠ f.tg) : DD (l.take (j + 1)) k = DD (l.take j) k := by
 rw [BK hf]; unfold DD; rw [List.filter_append]; simp [Ne.symm hk]
theorem dB : BN (l.take (j + 1)) f.frm = BN (l.take j) f.frm ++ [f] := by
 rw [BK hf]; unfold BN; rw [List.filter_append]; simp
theorem iI (hk : k ≠ f.frm) : BN (l.take (j + 1)) k = BN (l.take j) k := by
 rw [BK hf]; unfold BN; rw [List.filter_append]; simp [Ne.symm hk]
end
section
variable {w0 w w1 : World} {S : Nat → Prop} {L : List As}
theorem Mem.toFam {α : Type} (M : Mem w0 S L w) (i : Nat) {g : Nat} (hi : L[i]? = some (As.mp g [])) (e : TypeId) (size : Nat) (cells : α → List Value) : Mem w0 S (L.set i (As.fam w0.heap.size e size cells g [] (fun _ => []) (fun _ => False) [])) w :=
 M.upd i hi Fr.refl _ (Fam.new (M.mp i hi) _ _ _ _) (fun _ hg' => .inl hg')
theorem Mem.appOwn (M : Mem w0 S L w) (i : Nat) {base el size n n' : Nat} {v v' : Value} {xs xs' : List Value} (hi : L[i]? = some (As.own base el size v n xs)) (ho : w1.ownsRow base el size v' n' xs') (h2 : w.grownBy w1 v.ownBlock) (h3 : v'.ownBlock = v.ownBlock ∨ v'.ownBlock = some w.heap.size) : Mem w0 S (L.set i (As.own base el size v' n' xs')) w1 := by
 refine M.upd i hi ?_ _ ho ?_
 ·refine ⟨h2.os, h2.tape, h2.output, h2.size, fun g hg hn => h2.block g hg ?_⟩
  intro e
  exact hn (by simp [As.own, ← e])
 ·intro g hg
  rcases h3 with h | h
  ·left; simpa [As.own, h] using hg
  ·right
   have hg' : g = w.heap.size := by simpa [As.own, h, eq_comm] using hg
   have := (LN ho g hg).2
   omega
end
def MH : Value → Option Addr
 | .slice A _ _ => A
 | _ => none
def XV : Value → Nat
 | .slice _ _ c => c
 | _ => 0
theorem Fam.val {α : Type} {w : World} {base size g : Nat} {e : TypeId} {cells : α → List Value} {L : List (List UInt8 × Value)} {rows : List UInt8 → List α} {F : List Nat} (h : Fam w base e size cells g L rows (fun _ => False) F) (k : List UInt8) :
 (CG L k).getD (.slice none 0 0) = .slice (MH (EB L k)) (rows k).length (XV (EB L k)) ∧ Rd w (MH (EB L k)) ((rows k).length * size) (AS cells (rows k)) := by
 obtain ⟨ho, _⟩ := h.row k (fun hh => hh)
 obtain ⟨A, C, hv, _⟩ := E3 ho
 have hv' : (CG L k).getD (.slice none 0 0) = .slice A (rows k).length C := hv
 rw [hv', hv]
 rw [hv] at ho
 exact ⟨rfl, NB ho⟩
structure IxN (w : World) (m : Md) (a : MdA) (x : IxA) (gx : Nat) (F : List Nat) : Prop where
 blk : Blk w gx 139 (Ix.cells m a x)
 E : Mp w x.gE x.LE
 I : Mp w x.gI x.LI
 O : Mp w x.gO x.LO
 getE : ∀ k, (CG x.LE k).getD (.agg zeroEl.cells.toArray) = .agg ((AT m.els k).getD zeroEl).cells.toArray
 isE : ∀ k, (CG x.LE k).isSome = (AT m.els k).isSome
 getI : ∀ k, (CG x.LI k).getD (.slice none 0 0) = .slice (x.iA k) (DD m.fls k).length (x.iC k)
 getO : ∀ k, (CG x.LO k).getD (.slice none 0 0) = .slice (x.oA k) (BN m.fls k).length (x.oC k)
 rdI : ∀ k, Rd w (x.iA k) ((DD m.fls k).length * 4) (AS Fl.cells (DD m.fls k))
 rdO : ∀ k, Rd w (x.oA k) ((BN m.fls k).length * 4) (AS Fl.cells (BN m.fls k))
 inF : gx ∈ F ∧ x.gE ∈ F ∧ x.gI ∈ F ∧ x.gO ∈ F
 inI : ∀ k b off p, x.iA k = some ⟨b, off, p⟩ → b ∈ F
 inO : ∀ k b off p, x.oA k = some ⟨b, off, p⟩ → b ∈ F
theorem GS {w w' : World} {A : Option Addr} {n : Nat} {xs : List Value} {F : List Nat} (h : Rd w A n xs) (hk : ∀ g ∈ F, g < w.heap.size → w'.heap[g]? = w.heap[g]?) (hA : ∀ b off p, A = some ⟨b, off, p⟩ → b ∈ F) : Rd w' A n xs := by
 refine ⟨h.1, fun hn => ?_⟩
 obtain ⟨b, off, e, hc⟩ := h.2 hn
 refine ⟨b, off, e, fun j u hu => ?_⟩
 have h1 := hc j u hu
 have hl := World.block_lt_of_cell? w _ h1
 have h2 := hk b (hA b off none e) hl
 rw [← h1]
 unfold World.cell?
 simp only [h2]
theorem KH {w w' : World} {g : Nat} {L : List (List UInt8 × Value)} {F : List Nat} (h : Mp w g L) (hk : ∀ g ∈ F, g < w.heap.size → w'.heap[g]? = w.heap[g]?) (hg : g ∈ F) : Mp w' g L := by
 obtain ⟨es, cl, h1, h2⟩ := h
 exact ⟨es, cl, (hk g hg (Array.getElem?_eq_some_iff.1 h1).1).trans h1, h2⟩
theorem IxN.keep {w w' : World} {m : Md} {a : MdA} {x : IxA} {gx : Nat} {F : List Nat} (hk : ∀ g ∈ F, g < w.heap.size → w'.heap[g]? = w.heap[g]?) (h : IxN w m a x gx F) : IxN w' m a x gx F :=
 ⟨(hk gx h.inF.1 h.blk.lt).trans h.blk, KH h.E hk h.inF.2.1, KH h.I hk h.inF.2.2.1, KH h.O hk h.inF.2.2.2, h.getE, h.isE, h.getI, h.getO, fun k => GS (h.rdI k) hk (h.inI k), fun k => GS (h.rdO k) hk (h.inO k), h.inF, h.inI, h.inO⟩
def As.ixp (m : Md) (a : MdA) (x : IxA) (gx : Nat) (F : List Nat) : As := ⟨F, fun w => IxN w m a x gx F, fun h hb => hb.keep h⟩
theorem IxN.at {w : World} {m : Md} {a : MdA} {x : IxA} {gx : Nat} {F : List Nat} (h : IxN w m a x gx F) (hM : MdIn w m a) : IxAt w m a x gx :=
 ⟨hM, h.blk, h.E, h.I, h.O, h.getE, h.isE, h.getI, h.getO, h.rdI, h.rdO⟩
theorem Fam.blk {α : Type} {w : World} {base size g : Nat} {e : TypeId} {cells : α → List Value} {L : List (List UInt8 × Value)} {rows : List UInt8 → List α} {F : List Nat} (h : Fam w base e size cells g L rows (fun _ => False) F) (k : List UInt8) {b : Nat} (hA : (MH (EB L k)).map (fun a => a.block) = some b) : b ∈ F := by
 obtain ⟨ho, hF⟩ := h.row k (fun hh => hh)
 obtain ⟨A, C, hv, _⟩ := E3 ho
 refine hF b ?_
 rw [hv] at hA ⊢
 cases A with
 | none => cases hA
 | some q => simpa [MH, Value.ownBlock] using hA
theorem WA {m : Md} {a : MdA} {w w' : World} {g15 g13 g12 g11 : Nat} {L LI LO : List (List UInt8 × Value)} {FI FO : List Nat} {Ls : List As}
 (M : Mem w AB (As.blk g15 139 [str m.id, str m.nm, .slice a.V m.vars.length a.vc, .slice a.E m.els.length a.ec, .slice a.F m.fls.length a.fc, .map (some g11), .map (some g12), .map (some g13)] :: As.fam w.heap.size 65 4 Fl.cells g13 LO (BN m.fls) (fun _ => False) FO :: As.fam w.heap.size 65 4 Fl.cells g12 LI (DD m.fls) (fun _ => False) FI :: As.mp g11 L :: Ls) w')
 (hL : ∀ k, CG L k = (AT m.els k).map elV) :
 ∃ ix gx F, Ending.returned (.pointer (some ⟨g15, 0, none⟩)) = .returned (.pointer (some ⟨gx, 0, none⟩)) ∧ IxN w' m a ix gx F ∧ (∀ g ∈ F, w.heap.size ≤ g ∧ g < w'.heap.size) ∧ Fr0 w w' := by
 have hO : Fam w' w.heap.size 65 4 Fl.cells g13 LO (BN m.fls) (fun _ => False) FO := M.ok 1 _ rfl
 have hI : Fam w' w.heap.size 65 4 Fl.cells g12 LI (DD m.fls) (fun _ => False) FI := M.ok 2 _ rfl
 refine ⟨⟨g11, g12, g13, L, LI, LO, fun k => MH (EB LI k), fun k => XV (EB LI k), fun k => MH (EB LO k), fun k => XV (EB LO k)⟩, g15, g15 :: g11 :: ((g12 :: FI) ++ (g13 :: FO)), rfl,
  ⟨M.blk 0 rfl, M.mp 3 rfl, hI.map, hO.map, elG hL, elI hL, fun k => (hI.val k).1, fun k => (hO.val k).1, fun k => (hI.val k).2, fun k => (hO.val k).2, ⟨by simp, by simp, by simp, by simp⟩, ?_, ?_⟩, ?_, M.fr⟩
 ·intro k b off p hA
  have := hI.blk k (b := b) (by simp only at hA; rw [hA]; rfl)
  simp [this]
 ·intro k b off p hA
  have := hO.blk k (b := b) (by simp only at hA; rw [hA]; rfl)
  simp [this]
 ·intro g hg
  rcases List.mem_cons.1 hg with rfl | hg
  ·exact M.new0 0 rfl _ (by simp [As.blk])
  ·rcases List.mem_cons.1 hg with rfl | hg
   ·exact M.new0 3 rfl _ (by simp [As.mp])
   ·rcases List.mem_append.1 hg with hg | hg
    ·exact M.new0 2 rfl g hg
    ·exact M.new0 1 rfl g hg
theorem JV (c0_0 c0_1 c0_2 c0_3 c0_4 : Value) (a1 : Option Nat) (a2 : Option Nat) (a3 : Option Nat) : Tryz.prog.built 139 [(0, .agg #[c0_0, c0_1, c0_2, c0_3, c0_4]), (1, .map a1), (2, .map a2), (3, .map a3)] = some #[c0_0, c0_1, c0_2, c0_3, c0_4, .map a1, .map a2, .map a3] := by kernel_rfl
theorem IY : (Tryz.prog.info? 65).map (fun i => (i.zero, i.size, i.bytes)) = some (some (.agg #[str [], str [], str [], str []]), 4, 64) := by kernel_rfl
theorem MQ : (Tryz.prog.info? 65).map (fun i => (i.zero, i.size)) = some (some (.agg #[str [], str [], str [], str []]), 4) := by kernel_rfl
theorem zr_sl_api_Flow : (Tryz.prog.info? 24).map (·.zero) = some (some (.slice none 0 0)) := by kernel_rfl
theorem R0 (m : Md) (a : MdA) (w : World) (ho : MdOk m) (hM : MdIn w m a) :
 Calls Tryz.prog 30 #[.agg (Md.cells m a).toArray] w fun e w' => ∃ ix gx F, e = .returned (.pointer (some ⟨gx, 0, none⟩)) ∧ IxN w' m a ix gx F ∧ (∀ g ∈ F, w.heap.size ≤ g ∧ g < w'.heap.size) ∧ Fr0 w w' := by
 have hne := ho.nels
 have hnf := ho.nfls
 refine AL (vs := [_]) Tryz.func30 rfl Tryz.ntmps30 rfl ?_
 have M := CM w
 refine A9 (A0 (BG M (A4 rfl) rfl rfl 26 rfl rfl (Md.cells m a) rfl fun g1 w1 hg1 M => yb rfl (A1 (A2 (A9 (A0 (ya rfl (AO (xs := Md.cells m a) rfl rfl (M.rdBlk 0 rfl rfl) Tryz.underlying26 rfl BO) (HM M (A4 rfl) rfl rfl rfl fun g11 w2 hg11 M => HM M (A4 rfl) rfl rfl rfl fun g12 w3 hg12 M => HM M (A4 rfl) rfl rfl rfl fun g13 w4 hg13 M => ?_))))))))
 refine ya rfl (BS (parts := [(0, _), (1, _), (2, _), (3, _)]) rfl rfl (JV _ _ _ _ _ _ _ _)) (BG M (A4 rfl) rfl rfl 139 rfl rfl ([str m.id, str m.nm, .slice a.V m.vars.length a.vc, .slice a.E m.els.length a.ec, .slice a.F m.fls.length a.fc, .map (some g11), .map (some g12), .map (some g13)]) rfl fun g15 w5 hg15 M => yb rfl (A1 (A2 (A9 (A9 (A0 (yb rfl (yl rfl rfl (M.cell 4 rfl rfl) (ya rfl (CY rfl rfl (sl rfl)) (yb rfl (A1 (A2 (AZ ?_)))))))))))))
 refine CO (fun e wr mz => ∃ (i : Nat) (L : List (List UInt8 × Value)), e = [(1, .pointer (some ⟨g1, 0, none⟩)), (3, .pointer (some ⟨g15, 0, none⟩)), (17, .slice a.E m.els.length a.ec), (18, .int .i64 ((m.els.length : Nat) : Int)), (19, .int .i64 ((i : Nat) : Int))] ∧ Mem w AB [As.blk g15 139 [str m.id, str m.nm, .slice a.V m.vars.length a.vc, .slice a.E m.els.length a.ec, .slice a.F m.fls.length a.fc, .map (some g11), .map (some g12), .map (some g13)], As.mp g13 [], As.mp g12 [], As.mp g11 L, As.blk g1 26 (Md.cells m a)] wr ∧ (i ≤ m.els.length) ∧ (∀ k, CG L k = (AT (m.els.take i) k).map elV) ∧ mz = m.els.length - i) ⟨0, [], rfl, M, Nat.zero_le _, fun _ => rfl, rfl⟩ ⟨rfl, rfl, rfl, rfl, rfl, trivial⟩ ?_
 rintro _ w6 _ ⟨i, L, rfl, M, hi, hL, rfl⟩
 refine A9 (A0 (ya rfl (CJ rfl rfl rfl) (A1 (A2 (A9 (AR (b := (decide (((i : Nat) : Int) < ((m.els.length : Nat) : Int)))) rfl (fun h20 => ?_) (fun h20 => ?_)))))))
 ·have h20p := (of_decide_eq_true h20)
  refine AM (A2 (A9 (AZ (A9 (A0 ?_)))))
  obtain ⟨x, hx⟩ := DY (l := m.els) (i := i) (by omega)
  obtain ⟨b_x, o_x, hA_x⟩ := CN (k := 11) (by omega) (M.rd hM.els) hx
  refine ya rfl (BZ i hA_x rfl rfl rfl (sl rfl) (by omega)) (ya rfl (AO rfl rfl (DK El.len (M.rd hM.els) hA_x hx) Tryz.underlying62 rfl AY) (BL M (A4 rfl) rfl rfl 62 rfl [str [], str [], .int .u8 0, str [], str [], str [], .int .u8 0, str [], str [], .int .i64 0, .int .i64 0] B4 rfl fun g5 w7 hg5 M => B8 (cs' := (El.cells x)) M 0 (A4 rfl) rfl rfl rfl rfl rfl AY rfl (AQ rfl) (B3 rfl) rfl fun w8 M => A1 (A2 (A9 (D8 13 (fun w' => Mem w AB [As.blk g5 62 (El.cells x), As.blk g15 139 [str m.id, str m.nm, .slice a.V m.vars.length a.vc, .slice a.E m.els.length a.ec, .slice a.F m.fls.length a.fc, .map (some g11), .map (some g12), .map (some g13)], As.mp g13 [], As.mp g12 [], As.mp g11 L, As.blk g1 26 (Md.cells m a)] w') DT ?_)))))
  have M := M.drew
  refine oc 0 13 rfl rfl M (oc 1 13 rfl rfl M (oc 2 13 rfl rfl M (oa 3 13 rfl rfl M (fun _ M => AW rfl rfl (sc rfl) (M.cell 1 rfl rfl)) (oc 4 13 rfl rfl M (oa 5 13 rfl rfl M (fun _ M => AW rfl rfl (sc rfl) (M.cell 0 rfl rfl)) (oa 6 13 rfl rfl M (fun _ M => DE rfl rfl rfl Tryz.underlying55 Tryz.underlying9 B4 (M.mp 4 rfl) (elG hL _) (elI hL _)) (oc 7 13 rfl rfl M (oc 8 13 rfl rfl M (oc 9 13 rfl rfl M (B6 10 (some 6) (by kernel_rfl) rfl (A4 rfl) rfl rfl (fun ρ hρ => C0 62 rfl _ [str [], str [], .int .u8 0, str [], str [], str [], .int .u8 0, str [], str [], .int .i64 0, .int .i64 0] B4 rfl) ?_))))))))))
  rintro _ w9 ⟨g6, rfl, hg6, hq6, hb6, hfw9⟩
  refine ⟨fun _ => M.step hfw9, ?_⟩
  have M := M.push hfw9 _ hb6 (DA hg6 hq6)
  replace M : Mem w AB (As.blk g6 62 [str [], str [], .int .u8 0, str [], str [], str [], .int .u8 0, str [], str [], .int .i64 0, .int .i64 0] :: _) w9 := M
  refine B6 11 none (by kernel_rfl) rfl (A4 rfl) rfl rfl (fun ρ hρ => BT 62 _ _ rfl g6 0 62 _ (El.cells ((AT (m.els.take i) x.id).getD zeroEl)) (hρ _ _ rfl) (hρ _ _ rfl) (M.blk 0 rfl) AY (AQ rfl) (B3 rfl)) ?_
  rintro _ w10 ⟨rfl, hbw10, hfw10⟩
  replace M : Mem w AB (List.set _ 0 (As.blk g6 62 (El.cells ((AT (m.els.take i) x.id).getD zeroEl)))) w10 := M.putB 0 rfl hbw10 hfw10
  refine ⟨fun _ => M.drop 1, oc 12 13 rfl rfl (M.drop 1) (BM (by kernel_rfl) (A2 (A9 (A0 (yb rfl (yb rfl (A1 (A2 (AR (b := (!(AT (m.els.take i) x.id).isSome)) rfl (fun h34 => ?_) (fun h34 => ?_))))))))))⟩
  ·have h34p := (C4 h34)
   refine GP 7 DT (by kernel_rfl) ?_
   have M := M.drew
   refine AU (A4 rfl) rfl rfl (yp rfl) (AU (A4 rfl) rfl rfl (yp rfl) (AU (A4 rfl) rfl rfl (yp rfl) (AU (A4 rfl) rfl rfl (AW rfl rfl (sc rfl) (M.cell 2 rfl rfl)) (AU (A4 rfl) rfl rfl (yp rfl) (AU (A4 rfl) rfl rfl (AW rfl rfl (sc rfl) (M.cell 1 rfl rfl)) (AU (A4 rfl) rfl rfl (AO (xs := El.cells x) rfl rfl (M.rdBlk 1 rfl rfl) Tryz.underlying62 rfl AY) (EJ (ES M 5 (A4 rfl) rfl rfl rfl rfl rfl Tryz.underlying55 Tryz.underlying9 rfl fun w11 M => A1 (AD (A2 (A0 (ya rfl (CQ rfl rfl rfl (by omega)) (yb rfl ?_)))))))))))))
   refine A1 (BP [(1, .pointer (some ⟨g1, 0, none⟩)), (3, .pointer (some ⟨g15, 0, none⟩)), (17, .slice a.E m.els.length a.ec), (18, .int .i64 ((m.els.length : Nat) : Int)), (19, .int .i64 (((i + 1) : Nat) : Int))] (m.els.length - (i + 1)) ⟨i + 1, CV L x.id (.agg (El.cells x).toArray), rfl, (M.pick [2, 3, 4, 5, 6] (by decide)), ?_, ?_, rfl⟩ (by first | omega | (simp only [List.length_append, List.length_cons, List.length_nil]; omega)) ⟨rfl, rfl, rfl, rfl, rfl, trivial⟩)
   ·omega
   ·first
     | exact kH hL (BK hx) h34
     | exact pI hL (BK hx) h34
  ·have h34p := (C6 h34)
   refine AM (AD (A2 (A0 (ya rfl (CQ rfl rfl rfl (by omega)) (yb rfl (A1 (BP [(1, .pointer (some ⟨g1, 0, none⟩)), (3, .pointer (some ⟨g15, 0, none⟩)), (17, .slice a.E m.els.length a.ec), (18, .int .i64 ((m.els.length : Nat) : Int)), (19, .int .i64 (((i + 1) : Nat) : Int))] (m.els.length - (i + 1)) ⟨i + 1, L, rfl, (M.pick [2, 3, 4, 5, 6] (by decide)), ?_, ?_, rfl⟩ (by first | omega | (simp only [List.length_append, List.length_cons, List.length_nil]; omega)) ⟨rfl, rfl, rfl, rfl, rfl, trivial⟩)))))))
   ·omega
   ·first
     | exact kH hL (BK hx) h34
     | exact pI hL (BK hx) h34
 ·have h20p := (of_decide_eq_false h20)
  refine CF (AJ (AJ ?_))
  have hiE : i = m.els.length := by omega
  rw [hiE, List.take_length] at hL
  refine BE (A2 (A9 (A9 (A0 (yb rfl (yl rfl rfl (M.cell 4 rfl rfl) (ya rfl (CY rfl rfl (sl rfl)) (yb rfl (A1 (A2 (AZ ?_)))))))))))
  have M := M.toFam 2 rfl 65 4 Fl.cells
  have M := M.toFam 1 rfl 65 4 Fl.cells
  refine CO (fun e wr mz => ∃ (j : Nat) (LI : List (List UInt8 × Value)) (FI : List Nat) (LO : List (List UInt8 × Value)) (FO : List Nat), e = [(3, .pointer (some ⟨g15, 0, none⟩)), (44, .slice a.F m.fls.length a.fc), (45, .int .i64 ((m.fls.length : Nat) : Int)), (46, .int .i64 ((j : Nat) : Int))] ∧ Mem w AB [As.blk g15 139 [str m.id, str m.nm, .slice a.V m.vars.length a.vc, .slice a.E m.els.length a.ec, .slice a.F m.fls.length a.fc, .map (some g11), .map (some g12), .map (some g13)], As.fam w.heap.size 65 4 Fl.cells g13 LO (BN (m.fls.take j)) (fun _ => False) FO, As.fam w.heap.size 65 4 Fl.cells g12 LI (DD (m.fls.take j)) (fun _ => False) FI, As.mp g11 L, As.blk g1 26 (Md.cells m a)] wr ∧ (j ≤ m.fls.length) ∧ mz = m.fls.length - j) ⟨0, [], [], [], [], rfl, M, Nat.zero_le _, rfl⟩ ⟨rfl, rfl, rfl, rfl, trivial⟩ ?_
  rintro _ w12 _ ⟨j, LI, FI, LO, FO, rfl, M, hj, rfl⟩
  refine A9 (A0 (ya rfl (CJ rfl rfl rfl) (A1 (A2 (A9 (AR (b := (decide (((j : Nat) : Int) < ((m.fls.length : Nat) : Int)))) rfl (fun h47 => ?_) (fun h47 => ?_)))))))
  ·have h47p := (of_decide_eq_true h47)
   refine AM (A2 (A9 (AZ (A9 (A0 ?_)))))
   obtain ⟨f, hf⟩ := DY (l := m.fls) (i := j) (by omega)
   obtain ⟨b_f, o_f, hA_f⟩ := CN (k := 4) (by omega) (M.rd hM.fls) hf
   refine ya rfl (BZ j hA_f rfl rfl rfl (sl rfl) (by omega)) (ya rfl (AO rfl rfl (DK Fl.len (M.rd hM.fls) hA_f hf) Tryz.underlying65 rfl CE) (BL M (A4 rfl) rfl rfl 65 rfl [str [], str [], str [], str []] EF rfl fun g9 w13 hg9 M => B8 (cs' := (Fl.cells f)) M 0 (A4 rfl) rfl rfl rfl rfl rfl CE rfl (AQ rfl) (B3 rfl) rfl fun w14 M => A1 (A2 (A9 ?_))))
   obtain ⟨ARI, CRI, F1I, hvI, M⟩ := Mem.famTake (M.pick [3, 0, 1, 2, 4, 5] (by decide)) f.tg
   have hbI : (DD (m.fls.take j) f.tg).length ≤ m.fls.length := dX _ _ _
   refine D8 16 (fun w' => Mem w AB [As.fam w.heap.size 65 4 Fl.cells g12 LI (DD (m.fls.take j)) (fun k => k = f.tg) F1I, As.blk g9 65 (Fl.cells f), As.blk g15 139 [str m.id, str m.nm, .slice a.V m.vars.length a.vc, .slice a.E m.els.length a.ec, .slice a.F m.fls.length a.fc, .map (some g11), .map (some g12), .map (some g13)], As.fam w.heap.size 65 4 Fl.cells g13 LO (BN (m.fls.take j)) (fun _ => False) FO, As.mp g11 L, As.blk g1 26 (Md.cells m a)] w') DT ?_
   have M := M.drew
   refine oc 0 16 rfl rfl (M.pick [1, 2, 3, 4, 5, 6] (by decide)) (oc 1 16 rfl rfl (M.pick [1, 2, 3, 4, 5, 6] (by decide)) (oc 2 16 rfl rfl (M.pick [1, 2, 3, 4, 5, 6] (by decide)) (oa 3 16 rfl rfl (M.pick [1, 2, 3, 4, 5, 6] (by decide)) (fun _ M => AW rfl rfl (sc rfl) (M.cell 2 rfl rfl)) (oc 4 16 rfl rfl (M.pick [1, 2, 3, 4, 5, 6] (by decide)) (oa 5 16 rfl rfl (M.pick [1, 2, 3, 4, 5, 6] (by decide)) (fun _ M => AW rfl rfl (sc rfl) (M.cell 1 rfl rfl)) (oc 6 16 rfl rfl (M.pick [1, 2, 3, 4, 5, 6] (by decide)) (oc 7 16 rfl rfl (M.pick [1, 2, 3, 4, 5, 6] (by decide)) (oc 8 16 rfl rfl (M.pick [1, 2, 3, 4, 5, 6] (by decide)) (oa 9 16 rfl rfl (M.pick [1, 2, 3, 4, 5, 6] (by decide)) (fun _ M => AW rfl rfl (sc rfl) (M.cell 2 rfl rfl)) (oc 10 16 rfl rfl (M.pick [1, 2, 3, 4, 5, 6] (by decide)) (oa 11 16 rfl rfl (M.pick [1, 2, 3, 4, 5, 6] (by decide)) (fun _ M => AW rfl rfl (sc rfl) (M.cell 1 rfl rfl)) (oa 12 16 rfl rfl (M.pick [1, 2, 3, 4, 5, 6] (by decide)) (fun _ M => C5 rfl rfl rfl Tryz.underlying137 Tryz.underlying9 zr_sl_api_Flow (M.famMp 0 rfl) hvI) (oa 13 16 rfl rfl (M.pick [1, 2, 3, 4, 5, 6] (by decide)) (fun _ M => AO (xs := Fl.cells f) rfl rfl (M.rdBlk 1 rfl rfl) Tryz.underlying65 rfl CE) (B6 14 (some 64) (by kernel_rfl) rfl (A4 rfl) rfl rfl (fun ρ hρ => E1 [.agg (Fl.cells f).toArray] _ hρ rfl rfl rfl rfl Tryz.underlying24 MQ (by decide) (by decide) (by intro v hv; simp only [List.mem_cons, List.not_mem_nil, or_false] at hv; rcases hv with rfl <;> rfl)) ?_))))))))))))))
   rintro _ w15 ⟨g64, rfl, hg64, hq64, hb64, hfw15⟩
   replace hb64 : Blk w15 g64 65 ((Fl.cells f)) := hb64
   refine ⟨fun _ => (M.pick [1, 2, 3, 4, 5, 6] (by decide)).step hfw15, ?_⟩
   have M := M.push hfw15 _ hb64 (DA hg64 hq64)
   replace M : Mem w AB (As.blk g64 65 ((Fl.cells f)) :: _) w15 := M
   refine B6 15 (some 65) (by kernel_rfl) rfl (A4 rfl) rfl rfl (fun ρ hρ => DU _ _ _ rfl w.heap.size _ _ _ _ Tryz.underlying24 IY rfl (by decide) _ _ _ (hρ _ _ rfl) (M.own 1 rfl) _ _ _ _ (hρ _ _ rfl) (M.rdBlk 0 rfl rfl) ((Fl.cells_one _)) (by unfold maxLen; first | omega | (simp only [List.length_append, List.length_cons, List.length_nil]; omega)) (by first | omega | (simp only [List.length_append, List.length_cons, List.length_nil]; omega)) M.fr.size) ?_
   rintro v65 w16 ⟨ho65, hgr65, hvb65⟩
   replace ho65 : World.ownsRow w16 w.heap.size 65 4 v65 (((DD (m.fls.take j) f.tg) ++ [f]).length) (AS Fl.cells ((DD (m.fls.take j) f.tg) ++ [f])) := by rw [show (((DD (m.fls.take j) f.tg) ++ [f]).length) = ((DD (m.fls.take j) f.tg).length) + 1 from by simp, show (AS Fl.cells ((DD (m.fls.take j) f.tg) ++ [f])) = (AS Fl.cells (DD (m.fls.take j) f.tg)) ++ (Fl.cells f) from by simp [AS]]; exact ho65
   have M := M.appOwn 1 rfl ho65 hgr65 hvb65
   obtain ⟨A65, c65, rfl, _⟩ := E3 ho65
   refine ⟨fun _ => (M.pick [2, 3, 4, 5, 6, 7] (by decide)), B6 16 none (by kernel_rfl) rfl (A4 rfl) rfl rfl (fun ρ hρ => G6 rfl (hρ _ _ rfl) (hρ _ _ rfl) (hρ _ _ rfl) Tryz.underlying137 Tryz.underlying9 (M.famMp 2 rfl)) ?_⟩
   rintro _ w17 ⟨rfl, hfw17, hbw17⟩
   have M := M.putFam 2 rfl hfw17 hbw17
   refine ⟨fun h => absurd h (by decide), ?_⟩
   obtain ⟨F2I, M⟩ := Mem.famPut (M.pick [1, 2, 0, 3, 4, 5, 6, 7] (by decide)) (by rw [I9, if_pos rfl]) rfl (DD (m.fls.take (j + 1))) (j8 hf) (fun k hk => o1 hf hk)
   refine BM (by kernel_rfl) (A2 ?_)
   obtain ⟨ARO, CRO, F1O, hvO, M⟩ := Mem.famTake (M.pick [4, 0, 1, 2, 3, 5, 6] (by decide)) f.frm
   have hbO : (BN (m.fls.take j) f.frm).length ≤ m.fls.length := Y2 _ _ _
   refine D8 16 (fun w' => Mem w AB [As.fam w.heap.size 65 4 Fl.cells g13 LO (BN (m.fls.take j)) (fun k => k = f.frm) F1O, As.fam w.heap.size 65 4 Fl.cells g12 (CV LI f.tg (.slice A65 (((DD (m.fls.take j) f.tg) ++ [f]).length) c65)) (DD (m.fls.take (j + 1))) (fun _ => False) F2I, As.blk g64 65 (Fl.cells f), As.blk g9 65 (Fl.cells f), As.blk g15 139 [str m.id, str m.nm, .slice a.V m.vars.length a.vc, .slice a.E m.els.length a.ec, .slice a.F m.fls.length a.fc, .map (some g11), .map (some g12), .map (some g13)], As.mp g11 L, As.blk g1 26 (Md.cells m a)] w') DT ?_
   have M := M.drew
   refine oc 0 16 rfl rfl (M.pick [1, 2, 3, 4, 5, 6, 7] (by decide)) (oc 1 16 rfl rfl (M.pick [1, 2, 3, 4, 5, 6, 7] (by decide)) (oc 2 16 rfl rfl (M.pick [1, 2, 3, 4, 5, 6, 7] (by decide)) (oa 3 16 rfl rfl (M.pick [1, 2, 3, 4, 5, 6, 7] (by decide)) (fun _ M => AW rfl rfl (sc rfl) (M.cell 4 rfl rfl)) (oc 4 16 rfl rfl (M.pick [1, 2, 3, 4, 5, 6, 7] (by decide)) (oa 5 16 rfl rfl (M.pick [1, 2, 3, 4, 5, 6, 7] (by decide)) (fun _ M => AW rfl rfl (sc rfl) (M.cell 3 rfl rfl)) (oc 6 16 rfl rfl (M.pick [1, 2, 3, 4, 5, 6, 7] (by decide)) (oc 7 16 rfl rfl (M.pick [1, 2, 3, 4, 5, 6, 7] (by decide)) (oc 8 16 rfl rfl (M.pick [1, 2, 3, 4, 5, 6, 7] (by decide)) (oa 9 16 rfl rfl (M.pick [1, 2, 3, 4, 5, 6, 7] (by decide)) (fun _ M => AW rfl rfl (sc rfl) (M.cell 4 rfl rfl)) (oc 10 16 rfl rfl (M.pick [1, 2, 3, 4, 5, 6, 7] (by decide)) (oa 11 16 rfl rfl (M.pick [1, 2, 3, 4, 5, 6, 7] (by decide)) (fun _ M => AW rfl rfl (sc rfl) (M.cell 3 rfl rfl)) (oa 12 16 rfl rfl (M.pick [1, 2, 3, 4, 5, 6, 7] (by decide)) (fun _ M => C5 rfl rfl rfl Tryz.underlying137 Tryz.underlying9 zr_sl_api_Flow (M.famMp 0 rfl) hvO) (oa 13 16 rfl rfl (M.pick [1, 2, 3, 4, 5, 6, 7] (by decide)) (fun _ M => AO (xs := Fl.cells f) rfl rfl (M.rdBlk 3 rfl rfl) Tryz.underlying65 rfl CE) (B6 14 (some 80) (by kernel_rfl) rfl (A4 rfl) rfl rfl (fun ρ hρ => E1 [.agg (Fl.cells f).toArray] _ hρ rfl rfl rfl rfl Tryz.underlying24 MQ (by decide) (by decide) (by intro v hv; simp only [List.mem_cons, List.not_mem_nil, or_false] at hv; rcases hv with rfl <;> rfl)) ?_))))))))))))))
   rintro _ w18 ⟨g80, rfl, hg80, hq80, hb80, hfw18⟩
   replace hb80 : Blk w18 g80 65 ((Fl.cells f)) := hb80
   refine ⟨fun _ => (M.pick [1, 2, 3, 4, 5, 6, 7] (by decide)).step hfw18, ?_⟩
   have M := M.push hfw18 _ hb80 (DA hg80 hq80)
   replace M : Mem w AB (As.blk g80 65 ((Fl.cells f)) :: _) w18 := M
   refine B6 15 (some 81) (by kernel_rfl) rfl (A4 rfl) rfl rfl (fun ρ hρ => DU _ _ _ rfl w.heap.size _ _ _ _ Tryz.underlying24 IY rfl (by decide) _ _ _ (hρ _ _ rfl) (M.own 1 rfl) _ _ _ _ (hρ _ _ rfl) (M.rdBlk 0 rfl rfl) ((Fl.cells_one _)) (by unfold maxLen; first | omega | (simp only [List.length_append, List.length_cons, List.length_nil]; omega)) (by first | omega | (simp only [List.length_append, List.length_cons, List.length_nil]; omega)) M.fr.size) ?_
   rintro v81 w19 ⟨ho81, hgr81, hvb81⟩
   replace ho81 : World.ownsRow w19 w.heap.size 65 4 v81 (((BN (m.fls.take j) f.frm) ++ [f]).length) (AS Fl.cells ((BN (m.fls.take j) f.frm) ++ [f])) := by rw [show (((BN (m.fls.take j) f.frm) ++ [f]).length) = ((BN (m.fls.take j) f.frm).length) + 1 from by simp, show (AS Fl.cells ((BN (m.fls.take j) f.frm) ++ [f])) = (AS Fl.cells (BN (m.fls.take j) f.frm)) ++ (Fl.cells f) from by simp [AS]]; exact ho81
   have M := M.appOwn 1 rfl ho81 hgr81 hvb81
   obtain ⟨A81, c81, rfl, _⟩ := E3 ho81
   refine ⟨fun _ => (M.pick [2, 3, 4, 5, 6, 7, 8] (by decide)), B6 16 none (by kernel_rfl) rfl (A4 rfl) rfl rfl (fun ρ hρ => G6 rfl (hρ _ _ rfl) (hρ _ _ rfl) (hρ _ _ rfl) Tryz.underlying137 Tryz.underlying9 (M.famMp 2 rfl)) ?_⟩
   rintro _ w20 ⟨rfl, hfw20, hbw20⟩
   have M := M.putFam 2 rfl hfw20 hbw20
   refine ⟨fun h => absurd h (by decide), ?_⟩
   obtain ⟨F2O, M⟩ := Mem.famPut (M.pick [1, 2, 0, 3, 4, 5, 6, 7, 8] (by decide)) (by rw [I9, if_pos rfl]) rfl (BN (m.fls.take (j + 1))) (dB hf) (fun k hk => iI hf hk)
   refine BM (by kernel_rfl) (AD (A2 (A0 (ya rfl (CQ rfl rfl rfl (by omega)) (yb rfl (A1 (BP [(3, .pointer (some ⟨g15, 0, none⟩)), (44, .slice a.F m.fls.length a.fc), (45, .int .i64 ((m.fls.length : Nat) : Int)), (46, .int .i64 (((j + 1) : Nat) : Int))] (m.fls.length - (j + 1)) ⟨j + 1, (CV LI f.tg (.slice A65 (((DD (m.fls.take j) f.tg) ++ [f]).length) c65)), F2I, (CV LO f.frm (.slice A81 (((BN (m.fls.take j) f.frm) ++ [f]).length) c81)), F2O, rfl, (M.pick [5, 0, 2, 6, 7] (by decide)), ?_, rfl⟩ (by first | omega | (simp only [List.length_append, List.length_cons, List.length_nil]; omega)) ⟨rfl, rfl, rfl, rfl, trivial⟩)))))))
   ·omega
  ·have h47p := (of_decide_eq_false h47)
   refine CF (AJ (AJ ?_))
   have hjE : j = m.fls.length := by omega
   rw [hjE, List.take_length] at M
   exact BE (A2 (A9 (A0 (yb rfl (yb rfl (A1 (A2 (AE (AI rfl rfl (WA M hL))))))))))
end Go.Proofs.YtadgfojhjnkliaaGreatDoor
