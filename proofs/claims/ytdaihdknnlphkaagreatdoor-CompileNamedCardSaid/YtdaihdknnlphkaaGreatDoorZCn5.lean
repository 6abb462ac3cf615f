/- Lemmas that the last text rests on. Condition: each says its own. -/
import Derived.Test.YtdaihdknnlphkaaGreatDoorZCn4
set_option maxHeartbeats 16000000
set_option maxRecDepth 100000
namespace Go.Proofs.YtdaihdknnlphkaaGreatDoor
open Go.RowKit
open Tryz
theorem MpU.keep {w w' : World} {g : Nat} {L : List (UInt8 × Value)} (h : MpU w g L) (hk : g < w.heap.size → w'.heap[g]? = w.heap[g]?) : MpU w' g L := by
 obtain ⟨es, cl, h1, h2⟩ := h
 exact ⟨es, cl, (hk (Array.getElem?_eq_some_iff.1 h1).1).trans h1, h2⟩
def As.mpU (g : Nat) (L : List (UInt8 × Value)) : As := ⟨[g], fun w => MpU w g L, fun h hb => hb.keep (h g (by simp))⟩
section
variable {P : Program} {Q : Exit → Act → World → Prop} {n : Nat} {e : Env} {w w0 : World} {S : Nat → Prop} {L : List As} {ops : Array Oper} {o : Oper} {rest : List Oper}
theorem lA (M : Mem w0 S L w) {d t : Nat} (hw : Wn ops e o) (hd : o.dst = some d) (hn : Nat.blt d n = true) (ho : o.op = .makeMap t none)
 (k : ∀ g w', w.heap.size ≤ g → Mem w0 S (As.mpU g [] :: L) w' → SxL P ops Q n rest ((d, .map (some g)) :: e) w') : SxL P ops Q n (o :: rest) e w := by
 refine CM (some d) hw hd hn (fun ρ hρ => bS ho) ?_
 rintro _ w1 ⟨g, rfl, h1, h2, hb, hf⟩
 exact k g w1 h1 (M.push hf _ hb (fun g' hg' => by simp only [As.mpU, List.mem_singleton] at hg'; subst hg'; exact ⟨h1, h2⟩))
theorem FL (M : Mem w0 S L w) (i : Nat) (hw : Wn ops e o) (hd : o.dst = none) {t kt el g : Nat} {mp ix x : Operand} {k : UInt8} {v : Value} {K : List (UInt8 × Value)} (ho : o.op = .insert t mp ix x) (hm : ev e mp = some (.map (some g))) (hx : ev e ix = some (ku k)) (hv : ev e x = some v) (hu : P.underlying t = some (.map kt el)) (hk : P.underlying kt = some (.int .u8))
 (hi : L[i]? = some (As.mpU g K)) (c : ∀ w', Mem w0 S (L.set i (As.mpU g (LC K k v))) w' → SxL P ops Q n rest e w') : SxL P ops Q n (o :: rest) e w := by
 refine CM none hw hd rfl (fun ρ hρ => WU ho (hρ _ _ hm) (hρ _ _ hx) (hρ _ _ hv) hu hk (M.ok i _ hi : MpU w g K)) ?_
 rintro _ w1 ⟨rfl, hf, hb⟩
 exact c w1 (M.upd i hi (hf.mono fun k _ e => by simp only [As.mpU, List.mem_singleton]; exact e) (As.mpU g _) hb (fun g' hg' => .inl hg'))
end
def nD (g1 g3 : Nat) : List (UInt8 × Value) := [(1, .func (.func 37) #[] #[.pointer (some ⟨g1, 0, none⟩)]), (2, .func (.func 38) #[] #[.pointer (some ⟨g1, 0, none⟩)]), (3, .func (.func 35) #[] #[.pointer (some ⟨g1, 0, none⟩)]), (4, .func (.func 35) #[] #[.pointer (some ⟨g1, 0, none⟩)]), (8, .func (.func 39) #[] #[.pointer (some ⟨g1, 0, none⟩), .pointer (some ⟨g3, 0, none⟩)]), (7, .func (.func 40) #[] #[.pointer (some ⟨g1, 0, none⟩)]), (5, .func (.func 41) #[] #[.pointer (some ⟨g1, 0, none⟩)]), (6, .func (.func 42) #[] #[.pointer (some ⟨g1, 0, none⟩)]), (10, .func (.func 43) #[] #[.pointer (some ⟨g1, 0, none⟩)]), (9, .func (.func 45) #[] #[.pointer (some ⟨g1, 0, none⟩)])]
structure KnN (w : World) (gx g1 g3 g5 : Nat) : Prop where
 b1 : Blk w g1 52 [.pointer (some ⟨gx, 0, none⟩)]
 b3 : Blk w g3 62 [.func (.func 35) #[] #[.pointer (some ⟨g1, 0, none⟩)]]
 mp : MpU w g5 (nD g1 g3)
theorem KnN.keep {w w' : World} {gx g1 g3 g5 : Nat} (hk : ∀ g ∈ [g1, g3, g5], g < w.heap.size → w'.heap[g]? = w.heap[g]?) (h : KnN w gx g1 g3 g5) : KnN w' gx g1 g3 g5 :=
 ⟨(hk g1 (by simp) h.b1.lt).trans h.b1, (hk g3 (by simp) h.b3.lt).trans h.b3, h.mp.keep (hk g5 (by simp))⟩
def As.kn (gx g1 g3 g5 : Nat) : As := ⟨[g1, g3, g5], fun w => KnN w gx g1 g3 g5, fun h hb => hb.keep h⟩
structure NetOk (m : Md) : Prop where
 ids : Ids m
 kinds : ∀ y ∈ m.els, 1 ≤ y.kind.toNat ∧ y.kind.toNat ≤ 10
 subs : ∀ y ∈ m.els, y.kind.toNat = 10 → (BZ m.els y.id).isSome = true
theorem bW {l : List El} {k : List UInt8} (h : cntK 1 l k = 1) : (BZ l k).isSome = true := by
 induction l with
 | nil => simp [cntK] at h
 | cons x r ih =>
  unfold BZ
  by_cases hc : (decide ((x.kind.toNat : Int) = 1) && decide (x.inn = k)) = true
  ·rw [if_pos hc]; rfl
  ·rw [if_neg hc]
   apply ih
   have hf : (decide (x.inn = k) && decide (x.kind.toNat = 1)) = false := by
    rw [Bool.and_comm]
    have : decide (x.kind.toNat = 1) = decide ((x.kind.toNat : Int) = 1) := by
     by_cases h1 : x.kind.toNat = 1
     ·rw [decide_eq_true h1, decide_eq_true (by omega)]
     ·rw [decide_eq_false h1, decide_eq_false (by omega)]
    rw [this]; simpa using hc
   unfold cntK at h ⊢
   rw [List.filter_cons, if_neg (by rw [hf]; decide)] at h
   exact h
theorem Y9 {m : Md} (h : (EA m).2.2 = 0) : NetOk m := by
 refine ⟨WK h, ?_, ?_⟩
 ·rw [KD] at h
  have h2 : ffE (R9 m) m.els = none := h _ (by unfold X4; simp)
  unfold ffE at h2
  rw [JQ, JY] at h2
  intro y hy
  obtain ⟨j, hj⟩ := List.getElem?_of_mem hy
  have h3 := h2 j y hj
  unfold R9 SP at h3
  rw [Bool.and_eq_true] at h3
  have h4 := h3.2
  split at h4
  ·cases h4
  ·rename_i hc
   simp only [Bool.or_eq_true, decide_eq_true_eq, not_or] at hc
   omega
 ·rw [KD] at h
  have h5 : V3 m = none := h _ (by unfold X4; simp)
  unfold V3 ffS at h5
  rw [JY] at h5
  intro y hy hk
  have hm : y.id ∈ [] :: ET m.els := List.mem_cons_of_mem _ (List.mem_map.2 ⟨y, List.mem_filter.2 ⟨hy, by simpa using hk⟩, rfl⟩)
  obtain ⟨j, hj⟩ := List.getElem?_of_mem hm
  have h6 := h5 j y.id hj
  simp only [SW, Bool.and_eq_true, decide_eq_true_eq] at h6
  exact bW (by omega)
theorem nJ {m : Md} (hi : Ids m) (k : List UInt8) : ∀ s ∈ E6 m k, s.length ≤ 32 := fun s hs => by
 obtain ⟨x, hx, rfl⟩ := List.mem_map.1 hs
 exact E0 (hi.fls x (List.mem_filter.1 hx).1)
theorem iE {m : Md} (hi : Ids m) (k : List UInt8) : ∀ s ∈ CJ m k, s.length ≤ 32 := fun s hs => by
 obtain ⟨x, hx, rfl⟩ := List.mem_map.1 hs
 exact E0 (hi.fls x (List.mem_filter.1 hx).1)
theorem SL (m : Md) (k : List UInt8) : (E6 m k).length ≤ m.fls.length := by unfold E6; rw [List.length_map]; exact BS _ _
theorem G8 : (prog.info? 62).map (·.size) = some 1 := by kernel_rfl
theorem G7 : (prog.info? 62).map (·.zero) = some (some (.nilFunc)) := by kernel_rfl
theorem nC (gx : Nat) (w : World) :
 Calls prog 17 #[pg gx] w fun e w' => ∃ g1 g3 g5, e = .returned (.map (some g5)) ∧ KnN w' gx g1 g3 g5 ∧ (∀ g ∈ [g1, g3, g5], w.heap.size ≤ g ∧ g < w'.heap.size) ∧ Fr0 w w' := by
 refine AJ (vs := [_]) func17 rfl ntmps17 rfl ?_
 have M := CN w
 refine A9 (A0 (B4 M (AA rfl) rfl rfl 52 rfl rfl ([pg gx]) rfl fun g1 w1 hg1 M => yb rfl (A4 (A5 (A9 (A0 (ya rfl (CC (us := []) (vs := [pg g1]) rfl rfl rfl) (BI M (AA rfl) rfl rfl 62 rfl [.nilFunc] G7 rfl fun g3 w2 hg3 M => BP (cs' := [.func (.func 35) #[] #[pg g1]]) M 0 (AA rfl) rfl rfl rfl rfl rfl rfl rfl G8 (AZ rfl) rfl fun w3 M => A4 (A5 ?_)))))))))
 refine A9 (A0 (lA M (AA rfl) rfl rfl rfl fun g5 w4 hg5 M => ya rfl (CC (us := []) (vs := [pg g1]) rfl rfl rfl) (FL M 0 (k := (1 : UInt8)) (AA rfl) rfl rfl rfl rfl rfl underlying60 underlying5 rfl fun w5 M => ya rfl (CC (us := []) (vs := [pg g1]) rfl rfl rfl) (FL M 0 (k := (2 : UInt8)) (AA rfl) rfl rfl rfl rfl rfl underlying60 underlying5 rfl fun w6 M => yl rfl rfl (M.cell 1 rfl rfl) (FL M 0 (k := (3 : UInt8)) (AA rfl) rfl rfl rfl rfl rfl underlying60 underlying5 rfl fun w7 M => yl rfl rfl (M.cell 1 rfl rfl) (FL M 0 (k := (4 : UInt8)) (AA rfl) rfl rfl rfl rfl rfl underlying60 underlying5 rfl fun w8 M => ?_))))))
 refine ya rfl (CC (us := []) (vs := [pg g1, pg g3]) rfl rfl rfl) (FL M 0 (k := (8 : UInt8)) (AA rfl) rfl rfl rfl rfl rfl underlying60 underlying5 rfl fun w9 M => ya rfl (CC (us := []) (vs := [pg g1]) rfl rfl rfl) (FL M 0 (k := (7 : UInt8)) (AA rfl) rfl rfl rfl rfl rfl underlying60 underlying5 rfl fun w10 M => ya rfl (CC (us := []) (vs := [pg g1]) rfl rfl rfl) (FL M 0 (k := (5 : UInt8)) (AA rfl) rfl rfl rfl rfl rfl underlying60 underlying5 rfl fun w11 M => ya rfl (CC (us := []) (vs := [pg g1]) rfl rfl rfl) (FL M 0 (k := (6 : UInt8)) (AA rfl) rfl rfl rfl rfl rfl underlying60 underlying5 rfl fun w12 M => ya rfl (CC (us := []) (vs := [pg g1]) rfl rfl rfl) (FL M 0 (k := (10 : UInt8)) (AA rfl) rfl rfl rfl rfl rfl underlying60 underlying5 rfl fun w13 M => ya rfl (CC (us := []) (vs := [pg g1]) rfl rfl rfl) ?_)))))
 refine FL M 0 (k := (9 : UInt8)) (AA rfl) rfl rfl rfl rfl rfl underlying60 underlying5 rfl fun w14 M => yb rfl (yb rfl (A4 (A5 (AF (AK rfl rfl ?_)))))
 exact ⟨g1, g3, g5, rfl, ⟨M.blk 2 rfl, M.blk 1 rfl, (M.ok 0 _ rfl : MpU _ _ _)⟩, (fun g hg => by
  rcases List.mem_cons.1 hg with rfl | hg
  ·exact M.new0 2 rfl _ (by simp [As.blk])
  ·rcases List.mem_cons.1 hg with rfl | hg
   ·exact M.new0 1 rfl _ (by simp [As.blk])
   ·obtain rfl : g = _ := by simpa using hg
    exact M.new0 0 rfl _ (by simp [As.mpU])), M.fr⟩
theorem sH (we : World) (m : Md) (a : MdA) (gx g1 g3 g5 : Nat) (fin : Int) (pl : List (List UInt8)) (ho : MdOk m) (hn : NetOk m) (hM : MdIn we m a) (y : El) (hy : y ∈ m.els) : ∃ fd fcs, (LD (nD g1 g3) y.kind).getD .nilFunc = .func (.func fd) #[] (fcs : List Value).toArray ∧ (∀ (ar : Array Value) (w : World), (callFunc fd ar).run prog w = .ok (.enter fd ar) w) ∧
 ∀ (ts : List Tr1) (F : List Nat) (A B : Option Addr) (cA cB : Nat) (w : World), Fr0 we w → (∀ g ∈ F, we.heap.size ≤ g) → KnN w gx g1 g3 g5 → (∀ g ∈ [g1, g3, g5], g ∉ F) → ts.length ≤ 90000000 → MkN w m a gx fin pl ts F → Rd w A ((E6 m y.id).length * 1) (AS D7 (E6 m y.id)) → Rd w B ((CJ m y.id).length * 1) (AS D7 (CJ m y.id)) → (∀ b off p, A = some ⟨b, off, p⟩ → b ∉ F ∧ b < w.heap.size) → (∀ b off p, B = some ⟨b, off, p⟩ → b ∉ F ∧ b < w.heap.size) →
  Calls prog fd (.agg y.cells.toArray :: .slice A (E6 m y.id).length cA :: .slice B (CJ m y.id).length cB :: fcs).toArray w fun e w' => e = .returned (.tuple #[]) ∧ ME m a gx fin pl (ts ++ (CV m y).map (trP pl)) F w w' := by
 have hk := hn.kinds y hy
 have hl1 : (E6 m y.id).length ≤ 400 := Nat.le_trans (SL m y.id) ho.nfls
 have hl2 : (CJ m y.id).length ≤ 400 := Nat.le_trans (LT m y.id) ho.nfls
 have hs1 := nJ hn.ids y.id
 have hs2 := iE hn.ids y.id
 have cases_ : y.kind = 1 ∨ y.kind = 2 ∨ y.kind = 3 ∨ y.kind = 4 ∨ y.kind = 5 ∨ y.kind = 6 ∨ y.kind = 7 ∨ y.kind = 8 ∨ y.kind = 9 ∨ y.kind = 10 := by
  have : ∀ k : UInt8, 1 ≤ k.toNat ∧ k.toNat ≤ 10 → k = 1 ∨ k = 2 ∨ k = 3 ∨ k = 4 ∨ k = 5 ∨ k = 6 ∨ k = 7 ∨ k = 8 ∨ k = 9 ∨ k = 10 := by
   intro k ⟨h1, h2⟩
   have hk : k = UInt8.ofNat k.toNat := by simp
   have : k.toNat = 1 ∨ k.toNat = 2 ∨ k.toNat = 3 ∨ k.toNat = 4 ∨ k.toNat = 5 ∨ k.toNat = 6 ∨ k.toNat = 7 ∨ k.toNat = 8 ∨ k.toNat = 9 ∨ k.toNat = 10 := by omega
   rcases this with h | h | h | h | h | h | h | h | h | h <;> (rw [h] at hk; subst hk; decide)
  exact this _ hk
 rcases cases_ with h | h | h | h | h | h | h | h | h | h
 ·refine ⟨37, [pg g1], by rw [h]; rfl, call37, fun ts F A B cA cB w hwe hFe hK hnK hts hN hA hB hnA hnB => ?_⟩
  have ht : CV m y = if y.inn = [] then [⟨y.id, [sIn], CJ m y.id⟩] else [] := by unfold CV; rw [h]; rfl
  rw [ht]
  exact j0 we m a gx g1 fin pl ts F y (E6 m y.id) (CJ m y.id) A B cA cB w ho hn.ids hy hM hwe hFe hK.b1 (hnK g1 (by simp)) hts hN hs1 hs2 hl1 hl2 hA hB hnA hnB
 ·refine ⟨38, [pg g1], by rw [h]; rfl, call38, fun ts F A B cA cB w hwe hFe hK hnK hts hN hA hB hnA hnB => ?_⟩
  have ht : CV m y = [⟨y.id, E6 m y.id, if y.inn = [] then [sOut] else CJ m y.inn⟩] := by unfold CV; rw [h]; rfl
  rw [ht]
  exact sL we m a gx g1 fin pl ts F y (E6 m y.id) (CJ m y.id) A B cA cB w ho hn.ids hy hM hwe hFe hK.b1 (hnK g1 (by simp)) hts hN hs1 hs2 hl1 hl2 hA hB hnA hnB
 ·refine ⟨35, [pg g1], by rw [h]; rfl, call35, fun ts F A B cA cB w hwe hFe hK hnK hts hN hA hB hnA hnB => ?_⟩
  have ht : CV m y = IZ y (E6 m y.id) (CJ m y.id) := by unfold CV; rw [h]; rfl
  rw [ht]
  exact VU we m a gx g1 fin pl ts F y (E6 m y.id) (CJ m y.id) A B cA cB w ho hn.ids hy hM hwe hFe hK.b1 (hnK g1 (by simp)) hts hN hs1 hs2 hl1 hl2 hA hB hnA hnB
 ·refine ⟨35, [pg g1], by rw [h]; rfl, call35, fun ts F A B cA cB w hwe hFe hK hnK hts hN hA hB hnA hnB => ?_⟩
  have ht : CV m y = IZ y (E6 m y.id) (CJ m y.id) := by unfold CV; rw [h]; rfl
  rw [ht]
  exact VU we m a gx g1 fin pl ts F y (E6 m y.id) (CJ m y.id) A B cA cB w ho hn.ids hy hM hwe hFe hK.b1 (hnK g1 (by simp)) hts hN hs1 hs2 hl1 hl2 hA hB hnA hnB
 ·refine ⟨41, [pg g1], by rw [h]; rfl, call41, fun ts F A B cA cB w hwe hFe hK hnK hts hN hA hB hnA hnB => ?_⟩
  have ht : CV m y = (E6 m y.id).flatMap fun a => (CJ m y.id).map fun b => ⟨y.id ++ [32] ++ a ++ [32] ++ b, [a], [b]⟩ := by unfold CV; rw [h]; rfl
  rw [ht]
  exact nG we m a gx g1 fin pl ts F y (E6 m y.id) (CJ m y.id) A B cA cB w ho hn.ids hy hM hwe hFe hK.b1 (hnK g1 (by simp)) hts hN hs1 hs2 hl1 hl2 hA hB hnA hnB
 ·refine ⟨42, [pg g1], by rw [h]; rfl, call42, fun ts F A B cA cB w hwe hFe hK hnK hts hN hA hB hnA hnB => ?_⟩
  have ht : CV m y = [⟨y.id, E6 m y.id, CJ m y.id⟩] := by unfold CV; rw [h]; rfl
  rw [ht]
  exact sK we m a gx g1 fin pl ts F y (E6 m y.id) (CJ m y.id) A B cA cB w ho hn.ids hy hM hwe hFe hK.b1 (hnK g1 (by simp)) hts hN hs1 hs2 hl1 hl2 hA hB hnA hnB
 ·refine ⟨40, [pg g1], by rw [h]; rfl, call40, fun ts F A B cA cB w hwe hFe hK hnK hts hN hA hB hnA hnB => ?_⟩
  have ht : CV m y = [⟨y.id ++ [43], E6 m y.id, [y.id]⟩] := by unfold CV; rw [h]; rfl
  rw [ht]
  exact nF we m a gx g1 fin pl ts F y (E6 m y.id) (CJ m y.id) A B cA cB w ho hn.ids hy hM hwe hFe hK.b1 (hnK g1 (by simp)) hts hN hs1 hs2 hl1 hl2 hA hB hnA hnB
 ·refine ⟨39, [pg g1, pg g3], by rw [h]; rfl, call39, fun ts F A B cA cB w hwe hFe hK hnK hts hN hA hB hnA hnB => ?_⟩
  have ht : CV m y = if (EV m y.id).2 = true then [⟨y.id ++ [33], [(EV m y.id).1], CJ m y.id⟩] else IZ y (E6 m y.id) (CJ m y.id) := by unfold CV; rw [h]; rfl
  rw [ht]
  exact j1 we m a gx g1 fin pl ts F y (E6 m y.id) (CJ m y.id) A B cA cB g3 w hK.b3 (hnK g3 (by simp)) ho hn.ids hy hM hwe hFe hK.b1 (hnK g1 (by simp)) hts hN hs1 hs2 hl1 hl2 hA hB hnA hnB
 ·refine ⟨45, [pg g1], by rw [h]; rfl, call45, fun ts F A B cA cB w hwe hFe hK hnK hts hN hA hB hnA hnB => ?_⟩
  have ht : CV m y = (m.els.filter (EN m y)).map fun u => ⟨y.id ++ [32] ++ u.id, [u.id], CJ m y.id⟩ := by unfold CV; rw [h]; rfl
  rw [ht]
  exact nH we m a gx g1 fin pl ts F y (E6 m y.id) (CJ m y.id) A B cA cB w ho hn.ids hy hM hwe hFe hK.b1 (hnK g1 (by simp)) hts hN hs1 hs2 hl1 hl2 hA hB hnA hnB
 ·refine ⟨43, [pg g1], by rw [h]; rfl, call43, fun ts F A B cA cB w hwe hFe hK hnK hts hN hA hB hnA hnB => ?_⟩
  have ht : CV m y = [⟨y.id, E6 m y.id, CJ m ((BZ m.els y.id).getD zeroEl).id⟩] := by unfold CV; rw [h]; rfl
  rw [ht]
  exact sJ we m a gx g1 fin pl ts F y (E6 m y.id) (CJ m y.id) A B cA cB w ho hn.ids hy hM hwe hFe hK.b1 (hnK g1 (by simp)) hts hN hs1 hs2 hl1 hl2 hA hB hnA hnB (hn.subs y hy (by rw [h]; rfl))
end Go.Proofs.YtdaihdknnlphkaaGreatDoor
