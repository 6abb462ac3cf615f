/- Lemmas that the last text rests on. Condition: each says its own. -/
import Derived.Test.YtadgfojhjnkliaaGreatDoorZRu0
import Derived.Test.YtadgfojhjnkliaaGreatDoorZb8
set_option maxHeartbeats 16000000
set_option maxRecDepth 100000
namespace Go.Proofs.YtadgfojhjnkliaaGreatDoor
open Go.RowKit
open Tryz
theorem RG (l : List El) (x : El) (k : List UInt8) : AS (l ++ [x]) k = match AS l k with
 | some y => some y
 | none => if x.id = k then some x else none := by
 induction l with
 | nil => rfl
 | cons y r ih =>
  rw [List.cons_append, AS, AS]
  by_cases h : y.id = k
  ·rw [if_pos h, if_pos h]
  ·rw [if_neg h, if_neg h]; exact ih
section
variable {L : List (List UInt8 × Value)} {l l' : List El} {x : El} (hL : ∀ k, CE L k = (AS l k).map elV)
include hL
theorem elG (k : List UInt8) : (CE L k).getD (.agg zeroEl.cells.toArray) = .agg ((AS l k).getD zeroEl).cells.toArray := by rw [hL]; cases AS l k <;> rfl
theorem elI (k : List UInt8) : (CE L k).isSome = (AS l k).isSome := by rw [hL]; cases AS l k <;> rfl
theorem kI (hl : l' = l ++ [x]) (h : (!(AS l x.id).isSome) = true) : ∀ k, CE (CV L x.id (.agg (El.cells x).toArray)) k = (AS l' k).map elV := fun k => by
 have hn : AS l x.id = none := by
  cases hq : AS l x.id with
  | none => rfl
  | some y => rw [hq] at h; cases h
 rw [FM, hl, RG]
 by_cases hk : k = x.id
 ·subst hk; rw [if_pos rfl, hn]; simp [elV]
 ·rw [if_neg hk, hL]
  cases AS l k with
  | some y => rfl
  | none => rw [if_neg (fun e => hk e.symm)]
theorem pJ (hl : l' = l ++ [x]) (h : (!(AS l x.id).isSome) = false) : ∀ k, CE L k = (AS l' k).map elV := fun k => by
 rw [hL, hl, RG]
 cases hq : AS l k with
 | some y => rfl
 | none =>
  have hk : ¬ x.id = k := fun e => by rw [e, hq] at h; cases h
  rw [if_neg hk]
end
theorem dZ (l : List Fl) (i : Nat) (k : List UInt8) : (DD (l.take i) k).length ≤ l.length := Nat.le_trans (EY _ _) (by rw [List.length_take]; omega)
theorem Y4 (l : List Fl) (i : Nat) (k : List UInt8) : (BK (l.take i) k).length ≤ l.length := Nat.le_trans (DM _ _) (by rw [List.length_take]; omega)
section
variable {l : List Fl} {j : Nat} {f : Fl} {k : List UInt8} (hf : l[j]? = some f)
include hf
theorem j9 : DD (l.take (j + 1)) f.tg = DD (l.take j) f.tg ++ [f] := by
 rw [BH hf]; unfold DD; rw [List.filter_append]; simp
theorem o2 (hk : k ≠ f.tg) : DD (l.take (j + 1)) k = DD (l.take j) k := by
 rw [BH hf]; unfold DD; rw [List.filter_append]; simp [Ne.symm hk]
theorem dD : BK (l.take (j + 1)) f.frm = BK (l.take j) f.frm ++ [f] := by
 rw [BH hf]; unfold BK; rw [List.filter_append]; simp
theorem iJ (hk : k ≠ f.frm) : BK (l.take (j + 1)) k = BK (l.take j) k := by
 rw [BH hf]; unfold BK; rw [List.filter_append]; simp [Ne.symm hk]
end
section
variable {w0 w w1 : World} {S : Nat → Prop} {L : List As}
theorem Mem.toFam {α : Type} (M : Mem w0 S L w) (i : Nat) {g : Nat} (hi : L[i]? = some (As.mp g [])) (e : TypeId) (size : Nat) (cells : α → List Value) : Mem w0 S (L.set i (As.fam w0.heap.size e size cells g [] (fun _ => []) (fun _ => False) [])) w :=
 M.upd i hi Fr.refl _ (Fam.new (M.mp i hi) _ _ _ _) (fun _ hg' => .inl hg')
theorem Mem.appOwn (M : Mem w0 S L w) (i : Nat) {base el size n n' : Nat} {v v' : Value} {xs xs' : List Value} (hi : L[i]? = some (As.own base el size v n xs)) (ho : w1.ownsRow base el size v' n' xs') (h2 : w.grownBy w1 v.ownBlock) (h3 : v'.ownBlock = v.ownBlock ∨ v'.ownBlock = some w.heap.size) : Mem w0 S (L.set i (As.own base el size v' n' xs')) w1 := by
 refine M.upd i hi ?_ _ ho ?_
 ·refine ⟨h2.os, h2.tape, h2.output, h2.size, fun g hg hn => h2.block g hg ?_⟩
  intro e
  exact hn (by simp [As.own, ← e])
 ·intro g hg
  rcases h3 with h | h
  ·left; simpa [As.own, h] using hg
  ·right
   have hg' : g = w.heap.size := by simpa [As.own, h, eq_comm] using hg
   have := (LP ho g hg).2
   omega
end
def MI : Value → Option Addr
 | .slice A _ _ => A
 | _ => none
def XX : Value → Nat
 | .slice _ _ c => c
 | _ => 0
theorem Fam.val {α : Type} {w : World} {base size g : Nat} {e : TypeId} {cells : α → List Value} {L : List (List UInt8 × Value)} {rows : List UInt8 → List α} {F : List Nat} (h : Fam w base e size cells g L rows (fun _ => False) F) (k : List UInt8) :
 (CE L k).getD (.slice none 0 0) = .slice (MI (EB L k)) (rows k).length (XX (EB L k)) ∧ Rd w (MI (EB L k)) ((rows k).length * size) (AR cells (rows k)) := by
 obtain ⟨ho, _⟩ := h.row k (fun hh => hh)
 obtain ⟨A, C, hv, _⟩ := E3 ho
 have hv' : (CE L k).getD (.slice none 0 0) = .slice A (rows k).length C := hv
 rw [hv', hv]
 rw [hv] at ho
 exact ⟨rfl, NE ho⟩
structure IxN (w : World) (m : Md) (a : MdA) (x : IxA) (gx : Nat) (F : List Nat) : Prop where
 blk : Blk w gx 139 (Ix.cells m a x)
 E : Mp w x.gE x.LE
 I : Mp w x.gI x.LI
 O : Mp w x.gO x.LO
 getE : ∀ k, (CE x.LE k).getD (.agg zeroEl.cells.toArray) = .agg ((AS m.els k).getD zeroEl).cells.toArray
 isE : ∀ k, (CE x.LE k).isSome = (AS m.els k).isSome
 getI : ∀ k, (CE x.LI k).getD (.slice none 0 0) = .slice (x.iA k) (DD m.fls k).length (x.iC k)
 getO : ∀ k, (CE x.LO k).getD (.slice none 0 0) = .slice (x.oA k) (BK m.fls k).length (x.oC k)
 rdI : ∀ k, Rd w (x.iA k) ((DD m.fls k).length * 4) (AR Fl.cells (DD m.fls k))
 rdO : ∀ k, Rd w (x.oA k) ((BK m.fls k).length * 4) (AR Fl.cells (BK m.fls k))
 inF : gx ∈ F ∧ x.gE ∈ F ∧ x.gI ∈ F ∧ x.gO ∈ F
 inI : ∀ k b off p, x.iA k = some ⟨b, off, p⟩ → b ∈ F
 inO : ∀ k b off p, x.oA k = some ⟨b, off, p⟩ → b ∈ F
theorem GS {w w' : World} {A : Option Addr} {n : Nat} {xs : List Value} {F : List Nat} (h : Rd w A n xs) (hk : ∀ g ∈ F, g < w.heap.size → w'.heap[g]? = w.heap[g]?) (hA : ∀ b off p, A = some ⟨b, off, p⟩ → b ∈ F) : Rd w' A n xs := by
 refine ⟨h.1, fun hn => ?_⟩
 obtain ⟨b, off, e, hc⟩ := h.2 hn
 refine ⟨b, off, e, fun j u hu => ?_⟩
 have h1 := hc j u hu
 have hl := World.block_lt_of_cell? w _ h1
 have h2 := hk b (hA b off none e) hl
 rw [← h1]
 unfold World.cell?
 simp only [h2]
theorem KI {w w' : World} {g : Nat} {L : List (List UInt8 × Value)} {F : List Nat} (h : Mp w g L) (hk : ∀ g ∈ F, g < w.heap.size → w'.heap[g]? = w.heap[g]?) (hg : g ∈ F) : Mp w' g L := by
 obtain ⟨es, cl, h1, h2⟩ := h
 exact ⟨es, cl, (hk g hg (Array.getElem?_eq_some_iff.1 h1).1).trans h1, h2⟩
theorem IxN.keep {w w' : World} {m : Md} {a : MdA} {x : IxA} {gx : Nat} {F : List Nat} (hk : ∀ g ∈ F, g < w.heap.size → w'.heap[g]? = w.heap[g]?) (h : IxN w m a x gx F) : IxN w' m a x gx F :=
 ⟨(hk gx h.inF.1 h.blk.lt).trans h.blk, KI h.E hk h.inF.2.1, KI h.I hk h.inF.2.2.1, KI h.O hk h.inF.2.2.2, h.getE, h.isE, h.getI, h.getO, fun k => GS (h.rdI k) hk (h.inI k), fun k => GS (h.rdO k) hk (h.inO k), h.inF, h.inI, h.inO⟩
def As.ixp (m : Md) (a : MdA) (x : IxA) (gx : Nat) (F : List Nat) : As := ⟨F, fun w => IxN w m a x gx F, fun h hb => hb.keep h⟩
theorem IxN.at {w : World} {m : Md} {a : MdA} {x : IxA} {gx : Nat} {F : List Nat} (h : IxN w m a x gx F) (hM : MdIn w m a) : IxAt w m a x gx :=
 ⟨hM, h.blk, h.E, h.I, h.O, h.getE, h.isE, h.getI, h.getO, h.rdI, h.rdO⟩
theorem Fam.blk {α : Type} {w : World} {base size g : Nat} {e : TypeId} {cells : α → List Value} {L : List (List UInt8 × Value)} {rows : List UInt8 → List α} {F : List Nat} (h : Fam w base e size cells g L rows (fun _ => False) F) (k : List UInt8) {b : Nat} (hA : (MI (EB L k)).map (fun a => a.block) = some b) : b ∈ F := by
 obtain ⟨ho, hF⟩ := h.row k (fun hh => hh)
 obtain ⟨A, C, hv, _⟩ := E3 ho
 refine hF b ?_
 rw [hv] at hA ⊢
 cases A with
 | none => cases hA
 | some q => simpa [MI, Value.ownBlock] using hA
theorem WC {m : Md} {a : MdA} {w w' : World} {g15 g13 g12 g11 : Nat} {L LI LO : List (List UInt8 × Value)} {FI FO : List Nat} {Ls : List As}
 (M : Mem w AB (As.blk g15 139 [str m.id, str m.nm, .slice a.V m.vars.length a.vc, .slice a.E m.els.length a.ec, .slice a.F m.fls.length a.fc, .map (some g11), .map (some g12), .map (some g13)] :: As.fam w.heap.size 65 4 Fl.cells g13 LO (BK m.fls) (fun _ => False) FO :: As.fam w.heap.size 65 4 Fl.cells g12 LI (DD m.fls) (fun _ => False) FI :: As.mp g11 L :: Ls) w')
 (hL : ∀ k, CE L k = (AS m.els k).map elV) :
 ∃ ix gx F, Ending.returned (pg g15) = .returned (pg gx) ∧ IxN w' m a ix gx F ∧ (∀ g ∈ F, w.heap.size ≤ g ∧ g < w'.heap.size) ∧ Fr0 w w' := by
 have hO : Fam w' w.heap.size 65 4 Fl.cells g13 LO (BK m.fls) (fun _ => False) FO := M.ok 1 _ rfl
 have hI : Fam w' w.heap.size 65 4 Fl.cells g12 LI (DD m.fls) (fun _ => False) FI := M.ok 2 _ rfl
 refine ⟨⟨g11, g12, g13, L, LI, LO, fun k => MI (EB LI k), fun k => XX (EB LI k), fun k => MI (EB LO k), fun k => XX (EB LO k)⟩, g15, g15 :: g11 :: ((g12 :: FI) ++ (g13 :: FO)), rfl,
  ⟨M.blk 0 rfl, M.mp 3 rfl, hI.map, hO.map, elG hL, elI hL, fun k => (hI.val k).1, fun k => (hO.val k).1, fun k => (hI.val k).2, fun k => (hO.val k).2, ⟨by simp, by simp, by simp, by simp⟩, ?_, ?_⟩, ?_, M.fr⟩
 ·intro k b off p hA
  have := hI.blk k (b := b) (by simp only at hA; rw [hA]; rfl)
  simp [this]
 ·intro k b off p hA
  have := hO.blk k (b := b) (by simp only at hA; rw [hA]; rfl)
  simp [this]
 ·intro g hg
  rcases List.mem_cons.1 hg with rfl | hg
  ·exact M.new0 0 rfl _ (by simp [As.blk])
  ·rcases List.mem_cons.1 hg with rfl | hg
   ·exact M.new0 3 rfl _ (by simp [As.mp])
   ·rcases List.mem_append.1 hg with hg | hg
    ·exact M.new0 2 rfl g hg
    ·exact M.new0 1 rfl g hg
theorem JW (c0_0 c0_1 c0_2 c0_3 c0_4 : Value) (a1 : Option Nat) (a2 : Option Nat) (a3 : Option Nat) : prog.built 139 [(0, .agg #[c0_0, c0_1, c0_2, c0_3, c0_4]), (1, .map a1), (2, .map a2), (3, .map a3)] = some #[c0_0, c0_1, c0_2, c0_3, c0_4, .map a1, .map a2, .map a3] := by kernel_rfl
theorem IY : (prog.info? 65).map (fun i => (i.zero, i.size, i.bytes)) = some (some (.agg #[str [], str [], str [], str []]), 4, 64) := by kernel_rfl
theorem MS : (prog.info? 65).map (fun i => (i.zero, i.size)) = some (some (.agg #[str [], str [], str [], str []]), 4) := by kernel_rfl
theorem zr_sl_api_Flow : (prog.info? 24).map (·.zero) = some (some (.slice none 0 0)) := by kernel_rfl
theorem R2 (m : Md) (a : MdA) (w : World) (ho : MdOk m) (hM : MdIn w m a) :
 Calls prog 30 #[.agg (Md.cells m a).toArray] w fun e w' => ∃ ix gx F, e = .returned (pg gx) ∧ IxN w' m a ix gx F ∧ (∀ g ∈ F, w.heap.size ≤ g ∧ g < w'.heap.size) ∧ Fr0 w w' := by
 have hne := ho.nels
 have hnf := ho.nfls
 refine AK (vs := [_]) func30 rfl ntmps30 rfl ?_
 have M := CK w
 refine A4 (A0 (BD M (A9 rfl) rfl rfl 26 rfl rfl (Md.cells m a) rfl fun g1 w1 hg1 M => yb rfl (A1 (A2 (A4 (A0 (ya rfl (AN (xs := Md.cells m a) rfl rfl (M.rdBlk 0 rfl rfl) underlying26 rfl BL) (HN M (A9 rfl) rfl rfl rfl fun g11 w2 hg11 M => HN M (A9 rfl) rfl rfl rfl fun g12 w3 hg12 M => HN M (A9 rfl) rfl rfl rfl fun g13 w4 hg13 M => ?_))))))))
 refine ya rfl (BO (parts := [(0, _), (1, _), (2, _), (3, _)]) rfl rfl (JW _ _ _ _ _ _ _ _)) (BD M (A9 rfl) rfl rfl 139 rfl rfl ([str m.id, str m.nm, .slice a.V m.vars.length a.vc, .slice a.E m.els.length a.ec, .slice a.F m.fls.length a.fc, .map (some g11), .map (some g12), .map (some g13)]) rfl fun g15 w5 hg15 M => yb rfl (A1 (A2 (A4 (A4 (A0 (yb rfl (yl rfl rfl (M.cell 4 rfl rfl) (ya rfl (CY rfl rfl (sl rfl)) (yb rfl (A1 (A2 (AV ?_)))))))))))))
 refine CM (fun e wr mz => ∃ (i : Nat) (L : List (List UInt8 × Value)), e = [(1, pg g1), (3, pg g15), (17, .slice a.E m.els.length a.ec), (18, .int .i64 ((m.els.length : Nat) : Int)), (19, .int .i64 ((i : Nat) : Int))] ∧ Mem w AB [As.blk g15 139 [str m.id, str m.nm, .slice a.V m.vars.length a.vc, .slice a.E m.els.length a.ec, .slice a.F m.fls.length a.fc, .map (some g11), .map (some g12), .map (some g13)], As.mp g13 [], As.mp g12 [], As.mp g11 L, As.blk g1 26 (Md.cells m a)] wr ∧ (i ≤ m.els.length) ∧ (∀ k, CE L k = (AS (m.els.take i) k).map elV) ∧ mz = m.els.length - i) ⟨0, [], rfl, M, Nat.zero_le _, fun _ => rfl, rfl⟩ ⟨rfl, rfl, rfl, rfl, rfl, trivial⟩ ?_
 rintro _ w6 _ ⟨i, L, rfl, M, hi, hL, rfl⟩
 refine A4 (A0 (ya rfl (CH rfl rfl rfl) (A1 (A2 (A4 (AQ (b := (decide (((i : Nat) : Int) < ((m.els.length : Nat) : Int)))) rfl (fun h20 => ?_) (fun h20 => ?_)))))))
 ·have h20p := (odt h20)
  refine AL (A2 (A4 (AV (A4 (A0 ?_)))))
  obtain ⟨x, hx⟩ := DY (l := m.els) (i := i) (by omega)
  obtain ⟨b_x, o_x, hA_x⟩ := CL (k := 11) (by omega) (M.rd hM.els) hx
  refine ya rfl (BW i hA_x rfl rfl rfl (sl rfl) (by omega)) (ya rfl (AN rfl rfl (DK El.len (M.rd hM.els) hA_x hx) underlying62 rfl AU) (BI M (A9 rfl) rfl rfl 62 rfl [str [], str [], .int .u8 0, str [], str [], str [], .int .u8 0, str [], str [], .int .i64 0, .int .i64 0] AY rfl fun g5 w7 hg5 M => B5 (cs' := (El.cells x)) M 0 (A9 rfl) rfl rfl rfl rfl rfl AU rfl (AP rfl) (AW rfl) rfl fun w8 M => A1 (A2 (A4 (D8 13 (fun w' => Mem w AB [As.blk g5 62 (El.cells x), As.blk g15 139 [str m.id, str m.nm, .slice a.V m.vars.length a.vc, .slice a.E m.els.length a.ec, .slice a.F m.fls.length a.fc, .map (some g11), .map (some g12), .map (some g13)], As.mp g13 [], As.mp g12 [], As.mp g11 L, As.blk g1 26 (Md.cells m a)] w') DT ?_)))))
  have M := M.drew
  refine oc 0 13 rfl rfl M (oc 1 13 rfl rfl M (oc 2 13 rfl rfl M (ol 3 13 rfl rfl rfl M (fun _ M => (M.cell 1 rfl rfl)) (oc 4 13 rfl rfl M (ol 5 13 rfl rfl rfl M (fun _ M => (M.cell 0 rfl rfl)) (oa 6 13 rfl rfl M (fun _ M => DE rfl rfl rfl underlying55 underlying9 AY (M.mp 4 rfl) (elG hL _) (elI hL _)) (oc 7 13 rfl rfl M (oc 8 13 rfl rfl M (oc 9 13 rfl rfl M (B3 10 (some 6) (by kernel_rfl) rfl (A9 rfl) rfl rfl (fun ρ hρ => BX 62 rfl _ [str [], str [], .int .u8 0, str [], str [], str [], .int .u8 0, str [], str [], .int .i64 0, .int .i64 0] AY rfl) ?_))))))))))
  rintro _ w9 ⟨g6, rfl, hg6, hq6, hb6, hfw9⟩
  refine ⟨fun _ => M.step hfw9, ?_⟩
  have M := M.push hfw9 _ hb6 (DA hg6 hq6)
  replace M : Mem w AB (As.blk g6 62 [str [], str [], .int .u8 0, str [], str [], str [], .int .u8 0, str [], str [], .int .i64 0, .int .i64 0] :: _) w9 := M
  refine B3 11 none (by kernel_rfl) rfl (A9 rfl) rfl rfl (fun ρ hρ => BP 62 _ _ rfl g6 0 62 _ (El.cells ((AS (m.els.take i) x.id).getD zeroEl)) (hρ _ _ rfl) (hρ _ _ rfl) (M.blk 0 rfl) AU (AP rfl) (AW rfl)) ?_
  rintro _ w10 ⟨rfl, hbw10, hfw10⟩
  replace M : Mem w AB (List.set _ 0 (As.blk g6 62 (El.cells ((AS (m.els.take i) x.id).getD zeroEl)))) w10 := M.putB 0 rfl hbw10 hfw10
  refine ⟨fun _ => M.drop 1, oc 12 13 rfl rfl (M.drop 1) (BJ (by kernel_rfl) (A2 (A4 (A0 (yb rfl (yb rfl (A1 (A2 (AQ (b := (!(AS (m.els.take i) x.id).isSome)) rfl (fun h34 => ?_) (fun h34 => ?_))))))))))⟩
  ·have h34p := (C1 h34)
   refine GP 7 DT (by kernel_rfl) ?_
   have M := M.drew
   refine sb rfl (sb rfl (sb rfl (sd rfl rfl (M.cell 2 rfl rfl) (sb rfl (sd rfl rfl (M.cell 1 rfl rfl) (sa rfl (AN (xs := El.cells x) rfl rfl (M.rdBlk 1 rfl rfl) underlying62 rfl AU) (EJ (ES M 5 (A9 rfl) rfl rfl rfl rfl rfl underlying55 underlying9 rfl fun w11 M => A1 (AC (A2 (A0 (ya rfl (CQ rfl rfl rfl (by omega)) (yb rfl ?_)))))))))))))
   refine A1 (BM [(1, pg g1), (3, pg g15), (17, .slice a.E m.els.length a.ec), (18, .int .i64 ((m.els.length : Nat) : Int)), (19, .int .i64 (((i + 1) : Nat) : Int))] (m.els.length - (i + 1)) ⟨i + 1, CV L x.id (.agg (El.cells x).toArray), rfl, (M.pk [2, 3, 4, 5, 6]), ?_, ?_, rfl⟩ (by first | omega | (simp <;> omega)) ⟨rfl, rfl, rfl, rfl, rfl, trivial⟩)
   ·omega
   ·first
     | exact kI hL (BH hx) h34
     | exact pJ hL (BH hx) h34
  ·have h34p := (C3 h34)
   refine AL (AC (A2 (A0 (ya rfl (CQ rfl rfl rfl (by omega)) (yb rfl (A1 (BM [(1, pg g1), (3, pg g15), (17, .slice a.E m.els.length a.ec), (18, .int .i64 ((m.els.length : Nat) : Int)), (19, .int .i64 (((i + 1) : Nat) : Int))] (m.els.length - (i + 1)) ⟨i + 1, L, rfl, (M.pk [2, 3, 4, 5, 6]), ?_, ?_, rfl⟩ (by first | omega | (simp <;> omega)) ⟨rfl, rfl, rfl, rfl, rfl, trivial⟩)))))))
   ·omega
   ·first
     | exact kI hL (BH hx) h34
     | exact pJ hL (BH hx) h34
 ·have h20p := (odf h20)
  refine CD (AI (AI ?_))
  have hiE : i = m.els.length := by omega
  rw [hiE, List.take_length] at hL
  refine BB (A2 (A4 (A4 (A0 (yb rfl (yl rfl rfl (M.cell 4 rfl rfl) (ya rfl (CY rfl rfl (sl rfl)) (yb rfl (A1 (A2 (AV ?_)))))))))))
  have M := M.toFam 2 rfl 65 4 Fl.cells
  have M := M.toFam 1 rfl 65 4 Fl.cells
  refine CM (fun e wr mz => ∃ (j : Nat) (LI : List (List UInt8 × Value)) (FI : List Nat) (LO : List (List UInt8 × Value)) (FO : List Nat), e = [(3, pg g15), (44, .slice a.F m.fls.length a.fc), (45, .int .i64 ((m.fls.length : Nat) : Int)), (46, .int .i64 ((j : Nat) : Int))] ∧ Mem w AB [As.blk g15 139 [str m.id, str m.nm, .slice a.V m.vars.length a.vc, .slice a.E m.els.length a.ec, .slice a.F m.fls.length a.fc, .map (some g11), .map (some g12), .map (some g13)], As.fam w.heap.size 65 4 Fl.cells g13 LO (BK (m.fls.take j)) (fun _ => False) FO, As.fam w.heap.size 65 4 Fl.cells g12 LI (DD (m.fls.take j)) (fun _ => False) FI, As.mp g11 L, As.blk g1 26 (Md.cells m a)] wr ∧ (j ≤ m.fls.length) ∧ mz = m.fls.length - j) ⟨0, [], [], [], [], rfl, M, Nat.zero_le _, rfl⟩ ⟨rfl, rfl, rfl, rfl, trivial⟩ ?_
  rintro _ w12 _ ⟨j, LI, FI, LO, FO, rfl, M, hj, rfl⟩
  refine A4 (A0 (ya rfl (CH rfl rfl rfl) (A1 (A2 (A4 (AQ (b := (decide (((j : Nat) : Int) < ((m.fls.length : Nat) : Int)))) rfl (fun h47 => ?_) (fun h47 => ?_)))))))
  ·have h47p := (odt h47)
   refine AL (A2 (A4 (AV (A4 (A0 ?_)))))
   obtain ⟨f, hf⟩ := DY (l := m.fls) (i := j) (by omega)
   obtain ⟨b_f, o_f, hA_f⟩ := CL (k := 4) (by omega) (M.rd hM.fls) hf
   refine ya rfl (BW j hA_f rfl rfl rfl (sl rfl) (by omega)) (ya rfl (AN rfl rfl (DK Fl.len (M.rd hM.fls) hA_f hf) underlying65 rfl CB) (BI M (A9 rfl) rfl rfl 65 rfl [str [], str [], str [], str []] EF rfl fun g9 w13 hg9 M => B5 (cs' := (Fl.cells f)) M 0 (A9 rfl) rfl rfl rfl rfl rfl CB rfl (AP rfl) (AW rfl) rfl fun w14 M => A1 (A2 (A4 ?_))))
   obtain ⟨ARI, CRI, F1I, hvI, M⟩ := Mem.famTake (M.pk [3, 0, 1, 2, 4, 5]) f.tg
   have hbI : (DD (m.fls.take j) f.tg).length ≤ m.fls.length := dZ _ _ _
   refine D8 16 (fun w' => Mem w AB [As.fam w.heap.size 65 4 Fl.cells g12 LI (DD (m.fls.take j)) (fun k => k = f.tg) F1I, As.blk g9 65 (Fl.cells f), As.blk g15 139 [str m.id, str m.nm, .slice a.V m.vars.length a.vc, .slice a.E m.els.length a.ec, .slice a.F m.fls.length a.fc, .map (some g11), .map (some g12), .map (some g13)], As.fam w.heap.size 65 4 Fl.cells g13 LO (BK (m.fls.take j)) (fun _ => False) FO, As.mp g11 L, As.blk g1 26 (Md.cells m a)] w') DT ?_
   have M := M.drew
   refine oc 0 16 rfl rfl (M.pk [1, 2, 3, 4, 5, 6]) (oc 1 16 rfl rfl (M.pk [1, 2, 3, 4, 5, 6]) (oc 2 16 rfl rfl (M.pk [1, 2, 3, 4, 5, 6]) (ol 3 16 rfl rfl rfl (M.pk [1, 2, 3, 4, 5, 6]) (fun _ M => (M.cell 2 rfl rfl)) (oc 4 16 rfl rfl (M.pk [1, 2, 3, 4, 5, 6]) (ol 5 16 rfl rfl rfl (M.pk [1, 2, 3, 4, 5, 6]) (fun _ M => (M.cell 1 rfl rfl)) (oc 6 16 rfl rfl (M.pk [1, 2, 3, 4, 5, 6]) (oc 7 16 rfl rfl (M.pk [1, 2, 3, 4, 5, 6]) (oc 8 16 rfl rfl (M.pk [1, 2, 3, 4, 5, 6]) (ol 9 16 rfl rfl rfl (M.pk [1, 2, 3, 4, 5, 6]) (fun _ M => (M.cell 2 rfl rfl)) (oc 10 16 rfl rfl (M.pk [1, 2, 3, 4, 5, 6]) (ol 11 16 rfl rfl rfl (M.pk [1, 2, 3, 4, 5, 6]) (fun _ M => (M.cell 1 rfl rfl)) (oa 12 16 rfl rfl (M.pk [1, 2, 3, 4, 5, 6]) (fun _ M => C2 rfl rfl rfl underlying137 underlying9 zr_sl_api_Flow (M.famMp 0 rfl) hvI) (oa 13 16 rfl rfl (M.pk [1, 2, 3, 4, 5, 6]) (fun _ M => AN (xs := Fl.cells f) rfl rfl (M.rdBlk 1 rfl rfl) underlying65 rfl CB) (B3 14 (some 64) (by kernel_rfl) rfl (A9 rfl) rfl rfl (fun ρ hρ => E1 [.agg (Fl.cells f).toArray] _ hρ rfl rfl rfl rfl underlying24 MS (by decide) (by decide) (JL rfl)) ?_))))))))))))))
   rintro _ w15 ⟨g64, rfl, hg64, hq64, hb64, hfw15⟩
   replace hb64 : Blk w15 g64 65 ((Fl.cells f)) := hb64
   refine ⟨fun _ => (M.pk [1, 2, 3, 4, 5, 6]).step hfw15, ?_⟩
   have M := M.push hfw15 _ hb64 (DA hg64 hq64)
   replace M : Mem w AB (As.blk g64 65 ((Fl.cells f)) :: _) w15 := M
   refine B3 15 (some 65) (by kernel_rfl) rfl (A9 rfl) rfl rfl (fun ρ hρ => DU _ _ _ rfl w.heap.size _ _ _ _ underlying24 IY rfl (by decide) _ _ _ (hρ _ _ rfl) (M.own 1 rfl) _ _ _ _ (hρ _ _ rfl) (M.rdBlk 0 rfl rfl) ((Fl.cells_one _)) (by unfold maxLen; first | omega | (simp only [List.length_append, List.length_cons, List.length_nil]; omega)) (by first | omega | (simp <;> omega)) M.fr.size) ?_
   rintro v65 w16 ⟨ho65, hgr65, hvb65⟩
   replace ho65 : World.ownsRow w16 w.heap.size 65 4 v65 (((DD (m.fls.take j) f.tg) ++ [f]).length) (AR Fl.cells ((DD (m.fls.take j) f.tg) ++ [f])) := by rw [show (((DD (m.fls.take j) f.tg) ++ [f]).length) = ((DD (m.fls.take j) f.tg).length) + 1 from by simp, show (AR Fl.cells ((DD (m.fls.take j) f.tg) ++ [f])) = (AR Fl.cells (DD (m.fls.take j) f.tg)) ++ (Fl.cells f) from by simp [AR]]; exact ho65
   have M := M.appOwn 1 rfl ho65 hgr65 hvb65
   obtain ⟨A65, c65, rfl, _⟩ := E3 ho65
   refine ⟨fun _ => (M.pk [2, 3, 4, 5, 6, 7]), B3 16 none (by kernel_rfl) rfl (A9 rfl) rfl rfl (fun ρ hρ => G6 rfl (hρ _ _ rfl) (hρ _ _ rfl) (hρ _ _ rfl) underlying137 underlying9 (M.famMp 2 rfl)) ?_⟩
   rintro _ w17 ⟨rfl, hfw17, hbw17⟩
   have M := M.putFam 2 rfl hfw17 hbw17
   refine ⟨fun h => absurd h (by decide), ?_⟩
   obtain ⟨F2I, M⟩ := Mem.famPut (M.pk [1, 2, 0, 3, 4, 5, 6, 7]) (by rw [IA, if_pos rfl]) rfl (DD (m.fls.take (j + 1))) (j9 hf) (fun k hk => o2 hf hk)
   refine BJ (by kernel_rfl) (A2 ?_)
   obtain ⟨ARO, CRO, F1O, hvO, M⟩ := Mem.famTake (M.pk [4, 0, 1, 2, 3, 5, 6]) f.frm
   have hbO : (BK (m.fls.take j) f.frm).length ≤ m.fls.length := Y4 _ _ _
   refine D8 16 (fun w' => Mem w AB [As.fam w.heap.size 65 4 Fl.cells g13 LO (BK (m.fls.take j)) (fun k => k = f.frm) F1O, As.fam w.heap.size 65 4 Fl.cells g12 (CV LI f.tg (.slice A65 (((DD (m.fls.take j) f.tg) ++ [f]).length) c65)) (DD (m.fls.take (j + 1))) (fun _ => False) F2I, As.blk g64 65 (Fl.cells f), As.blk g9 65 (Fl.cells f), As.blk g15 139 [str m.id, str m.nm, .slice a.V m.vars.length a.vc, .slice a.E m.els.length a.ec, .slice a.F m.fls.length a.fc, .map (some g11), .map (some g12), .map (some g13)], As.mp g11 L, As.blk g1 26 (Md.cells m a)] w') DT ?_
   have M := M.drew
   refine oc 0 16 rfl rfl (M.pk [1, 2, 3, 4, 5, 6, 7]) (oc 1 16 rfl rfl (M.pk [1, 2, 3, 4, 5, 6, 7]) (oc 2 16 rfl rfl (M.pk [1, 2, 3, 4, 5, 6, 7]) (ol 3 16 rfl rfl rfl (M.pk [1, 2, 3, 4, 5, 6, 7]) (fun _ M => (M.cell 4 rfl rfl)) (oc 4 16 rfl rfl (M.pk [1, 2, 3, 4, 5, 6, 7]) (ol 5 16 rfl rfl rfl (M.pk [1, 2, 3, 4, 5, 6, 7]) (fun _ M => (M.cell 3 rfl rfl)) (oc 6 16 rfl rfl (M.pk [1, 2, 3, 4, 5, 6, 7]) (oc 7 16 rfl rfl (M.pk [1, 2, 3, 4, 5, 6, 7]) (oc 8 16 rfl rfl (M.pk [1, 2, 3, 4, 5, 6, 7]) (ol 9 16 rfl rfl rfl (M.pk [1, 2, 3, 4, 5, 6, 7]) (fun _ M => (M.cell 4 rfl rfl)) (oc 10 16 rfl rfl (M.pk [1, 2, 3, 4, 5, 6, 7]) (ol 11 16 rfl rfl rfl (M.pk [1, 2, 3, 4, 5, 6, 7]) (fun _ M => (M.cell 3 rfl rfl)) (oa 12 16 rfl rfl (M.pk [1, 2, 3, 4, 5, 6, 7]) (fun _ M => C2 rfl rfl rfl underlying137 underlying9 zr_sl_api_Flow (M.famMp 0 rfl) hvO) (oa 13 16 rfl rfl (M.pk [1, 2, 3, 4, 5, 6, 7]) (fun _ M => AN (xs := Fl.cells f) rfl rfl (M.rdBlk 3 rfl rfl) underlying65 rfl CB) (B3 14 (some 80) (by kernel_rfl) rfl (A9 rfl) rfl rfl (fun ρ hρ => E1 [.agg (Fl.cells f).toArray] _ hρ rfl rfl rfl rfl underlying24 MS (by decide) (by decide) (JL rfl)) ?_))))))))))))))
   rintro _ w18 ⟨g80, rfl, hg80, hq80, hb80, hfw18⟩
   replace hb80 : Blk w18 g80 65 ((Fl.cells f)) := hb80
   refine ⟨fun _ => (M.pk [1, 2, 3, 4, 5, 6, 7]).step hfw18, ?_⟩
   have M := M.push hfw18 _ hb80 (DA hg80 hq80)
   replace M : Mem w AB (As.blk g80 65 ((Fl.cells f)) :: _) w18 := M
   refine B3 15 (some 81) (by kernel_rfl) rfl (A9 rfl) rfl rfl (fun ρ hρ => DU _ _ _ rfl w.heap.size _ _ _ _ underlying24 IY rfl (by decide) _ _ _ (hρ _ _ rfl) (M.own 1 rfl) _ _ _ _ (hρ _ _ rfl) (M.rdBlk 0 rfl rfl) ((Fl.cells_one _)) (by unfold maxLen; first | omega | (simp only [List.length_append, List.length_cons, List.length_nil]; omega)) (by first | omega | (simp <;> omega)) M.fr.size) ?_
   rintro v81 w19 ⟨ho81, hgr81, hvb81⟩
   replace ho81 : World.ownsRow w19 w.heap.size 65 4 v81 (((BK (m.fls.take j) f.frm) ++ [f]).length) (AR Fl.cells ((BK (m.fls.take j) f.frm) ++ [f])) := by rw [show (((BK (m.fls.take j) f.frm) ++ [f]).length) = ((BK (m.fls.take j) f.frm).length) + 1 from by simp, show (AR Fl.cells ((BK (m.fls.take j) f.frm) ++ [f])) = (AR Fl.cells (BK (m.fls.take j) f.frm)) ++ (Fl.cells f) from by simp [AR]]; exact ho81
   have M := M.appOwn 1 rfl ho81 hgr81 hvb81
   obtain ⟨A81, c81, rfl, _⟩ := E3 ho81
   refine ⟨fun _ => (M.pk [2, 3, 4, 5, 6, 7, 8]), B3 16 none (by kernel_rfl) rfl (A9 rfl) rfl rfl (fun ρ hρ => G6 rfl (hρ _ _ rfl) (hρ _ _ rfl) (hρ _ _ rfl) underlying137 underlying9 (M.famMp 2 rfl)) ?_⟩
   rintro _ w20 ⟨rfl, hfw20, hbw20⟩
   have M := M.putFam 2 rfl hfw20 hbw20
   refine ⟨fun h => absurd h (by decide), ?_⟩
   obtain ⟨F2O, M⟩ := Mem.famPut (M.pk [1, 2, 0, 3, 4, 5, 6, 7, 8]) (by rw [IA, if_pos rfl]) rfl (BK (m.fls.take (j + 1))) (dD hf) (fun k hk => iJ hf hk)
   refine BJ (by kernel_rfl) (AC (A2 (A0 (ya rfl (CQ rfl rfl rfl (by omega)) (yb rfl (A1 (BM [(3, pg g15), (44, .slice a.F m.fls.length a.fc), (45, .int .i64 ((m.fls.length : Nat) : Int)), (46, .int .i64 (((j + 1) : Nat) : Int))] (m.fls.length - (j + 1)) ⟨j + 1, (CV LI f.tg (.slice A65 (((DD (m.fls.take j) f.tg) ++ [f]).length) c65)), F2I, (CV LO f.frm (.slice A81 (((BK (m.fls.take j) f.frm) ++ [f]).length) c81)), F2O, rfl, (M.pk [5, 0, 2, 6, 7]), ?_, rfl⟩ (by first | omega | (simp <;> omega)) ⟨rfl, rfl, rfl, rfl, trivial⟩)))))))
   ·omega
  ·have h47p := (odf h47)
   refine CD (AI (AI ?_))
   have hjE : j = m.fls.length := by omega
   rw [hjE, List.take_length] at M
   exact BB (A2 (A4 (A0 (yb rfl (yb rfl (A1 (A2 (AD (AH rfl rfl (WC M hL))))))))))
end Go.Proofs.YtadgfojhjnkliaaGreatDoor
