/- Lemmas that the last text rests on. Condition: each says its own. -/
import Derived.Test.YtjaocmocdhckaaaGreatDoorZMv2
import Derived.Test.YtjaocmocdhckaaaGreatDoorZRu10
set_option maxHeartbeats 16000000
set_option maxRecDepth 100000
namespace Go.Proofs.YtjaocmocdhckaaaGreatDoor
open Go.RowKit
section
def MpS (w : World) (g : Nat) (L : List (List UInt8 × Value)) : Option (List UInt8 × Nat) → Prop
 | none => MpB w g L
 | some (k, b) => EntAt w g L k b
theorem MpS.keep {w w' : World} {g : Nat} {L : List (List UInt8 × Value)} {st : Option (List UInt8 × Nat)} (hk : g < w.heap.size → w'.heap[g]? = w.heap[g]?) (h : MpS w g L st) : MpS w' g L st := by
 cases st with
 | none => exact MpB.keep hk h
 | some p => obtain ⟨k, b⟩ := p; exact EntAt.keep hk h
def As.mpS (g : Nat) (L : List (List UInt8 × Value)) (st : Option (List UInt8 × Nat)) : As := ⟨[g], fun w => MpS w g L st, fun h hb => hb.keep (h g (by simp))⟩
structure RowS (w : World) (g : Nat) (L : List (List UInt8 × Value)) (st : Option (List UInt8 × Nat)) (rows : List UInt8 → List (List UInt8)) (F : List Nat) : Prop where
 map : MpS w g L st
 gF : ¬ g ∈ F
 row : ∀ k, ∃ A C, FK L k = .slice A (rows k).length C ∧ Rd w A ((rows k).length * 1) (AH BY (rows k)) ∧ ∀ b off p, A = some ⟨b, off, p⟩ → b ∈ F
theorem RowS.keep {w w' : World} {g : Nat} {L : List (List UInt8 × Value)} {st : Option (List UInt8 × Nat)} {rows : List UInt8 → List (List UInt8)} {F : List Nat} (hk : ∀ x ∈ g :: F, x < w.heap.size → w'.heap[x]? = w.heap[x]?) (h : RowS w g L st rows F) : RowS w' g L st rows F :=
 ⟨h.map.keep (hk g (by simp)), h.gF, fun k => by
  obtain ⟨A, C, h1, h2, h3⟩ := h.row k
  exact ⟨A, C, h1, HV h2 (fun x hx => hk x (List.mem_cons_of_mem _ hx)) h3, h3⟩⟩
def As.rowS (g : Nat) (L : List (List UInt8 × Value)) (st : Option (List UInt8 × Nat)) (rows : List UInt8 → List (List UInt8)) (F : List Nat) : As := ⟨g :: F, fun w => RowS w g L st rows F, fun h hb => hb.keep h⟩
def As.both (a b : As) : As := ⟨a.fp ++ b.fp, fun w => a.ok w ∧ b.ok w, fun h hb => ⟨a.keep (fun g hg => h g (List.mem_append_left _ hg)) hb.1, b.keep (fun g hg => h g (List.mem_append_right _ hg)) hb.2⟩⟩
section
variable {w0 w w' : World} {S : Nat → Prop} {Ls : List As} {g b : Nat} {L L' : List (List UInt8 × Value)} {k : List UInt8} {rows : List UInt8 → List (List UInt8)} {F : List Nat} {st : Option (List UInt8 × Nat)}
theorem nC (w : World) : MpB (w.alloc (.map #[] 0)) w.heap.size [] := ⟨#[], 0, by show (w.heap.push (.map #[] 0))[w.heap.size]? = _; simp, rfl, by simp, by simp⟩
theorem RC {P : Program} {Q : Exit → Act → World → Prop} {n : Nat} {e : Env} {ops : Array Oper} {o : Oper} {rest : List Oper} (M : Mem w0 S Ls w) {d t : Nat} (hw : Wn ops e o) (hd : o.dst = some d) (hn : Nat.blt d n = true) (ho : o.op = .makeMap t none)
 (k : ∀ g w', w.heap.size ≤ g → Mem w0 S (As.mpS g [] none :: Ls) w' → SxL P ops Q n rest ((d, .map (some g)) :: e) w') : SxL P ops Q n (o :: rest) e w := by
 refine CH (some d) hw hd hn (fun ρ hρ => S5 ho) ?_
 rintro _ w1 ⟨rfl, rfl⟩
 exact k _ _ (Nat.le_refl _) (M.push (Fr.refl.alloc _) _ (nC w) (fun g' hg' => by simp only [As.mpS, List.mem_singleton] at hg'; subst hg'; simp))
theorem Mem.mpS (M : Mem w0 S Ls w) (i : Nat) (hi : Ls[i]? = some (As.mpS g L st)) : MpS w g L st := M.ok i _ hi
theorem Mem.rowS (M : Mem w0 S Ls w) (i : Nat) (hi : Ls[i]? = some (As.rowS g L st rows F)) : RowS w g L st rows F := M.ok i _ hi
theorem Mem.toRow (M : Mem w0 S Ls w) (i : Nat) (hi : Ls[i]? = some (As.mpS g [] none)) : Mem w0 S (Ls.set i (As.rowS g [] none (fun _ => []) [])) w :=
 M.upd i hi Fr.refl _ (show RowS w g [] none (fun _ => []) [] from ⟨M.ok i _ hi, by simp, fun k => ⟨none, 0, by simp [FK, CU], Rd.nil, fun b off p h => by cases h⟩⟩) (fun _ hg' => .inl hg')
theorem Mem.entA (M : Mem w0 S Ls w) (i : Nat) (hi : Ls[i]? = some (As.mpS g L none)) (hf : Fr (fun x => x = g) w w') (hE : EntAt w' g L' k b) : Mem w0 S (Ls.set i (As.mpS g L' (some (k, b)))) w' :=
 M.upd i hi (hf.mono fun k _ e => by simp only [As.mpS, List.mem_singleton]; exact e) (As.mpS g L' (some (k, b))) hE (fun _ hg' => .inl hg')
theorem Mem.putA (M : Mem w0 S Ls w) (i : Nat) (hi : Ls[i]? = some (As.mpS g L (some (k, b)))) (hf : Fr (fun x => x = g) w w') (hE : MpB w' g L') : Mem w0 S (Ls.set i (As.mpS g L' none)) w' :=
 M.upd i hi (hf.mono fun k _ e => by simp only [As.mpS, List.mem_singleton]; exact e) (As.mpS g L' none) hE (fun _ hg' => .inl hg')
theorem Mem.entR (M : Mem w0 S Ls w) (i : Nat) (hi : Ls[i]? = some (As.rowS g L none rows F)) (hf : Fr (fun x => x = g) w w') (hE : EntAt w' g (DN L k ((CU L k).getD (.slice none 0 0))) k b) : Mem w0 S (Ls.set i (As.rowS g (DN L k ((CU L k).getD (.slice none 0 0))) (some (k, b)) rows F)) w' := by
 have h : RowS w g L none rows F := M.ok i _ hi
 refine M.upd i hi (hf.mono fun k _ e => by rw [e]; exact List.mem_cons_self) _ (show RowS w' g _ (some (k, b)) rows F from ⟨hE, h.gF, fun k' => ?_⟩) (fun _ hg' => .inl hg')
 obtain ⟨A, C, h1, h2, h3⟩ := h.row k'
 refine ⟨A, C, ?_, HV h2 (fun x hx hl => hf.block x hl (fun e => h.gF (e ▸ hx))) h3, h3⟩
 rw [JE]
 by_cases hk : k' = k
 ·subst hk; rw [if_pos rfl]; exact h1
 ·rw [if_neg hk]; exact h1
theorem Mem.putR {base T n C : Nat} {A : Option Addr} {l : List (List UInt8)} (M : Mem w0 S (As.own base T 1 (.slice A n C) n (AH BY l) :: As.rowS g L (some (k, b)) rows F :: Ls) w) (hf : Fr (fun x => x = g) w w') (hE : MpB w' g (DN L k (.slice A n C))) (hn : n = l.length) :
 ∃ F', Mem w0 S (As.rowS g (DN L k (.slice A n C)) none (fun k' => if k' = k then l else rows k') F' :: Ls) w' := by
 have ho := M.own 0 rfl
 have h : RowS w g L (some (k, b)) rows F := M.ok 1 _ rfl
 have hap : ∀ x ∈ (Value.slice A n C).ownBlock.toList, ¬ x ∈ g :: F := fun x hx => M.apart 0 1 _ _ rfl rfl BU x hx
 have M1 := M.joinFam (As.both (As.own base T 1 (.slice A n C) n (AH BY l)) (As.rowS g L (some (k, b)) rows F)) ⟨ho, h⟩ (fun x hx => List.mem_append.1 hx)
 have hA : ∀ b off p, A = some ⟨b, off, p⟩ → b ∈ (Value.slice A n C).ownBlock.toList := fun b off p e => by subst e; simp [Value.ownBlock]
 refine ⟨(Value.slice A n C).ownBlock.toList ++ F, M1.upd 0 rfl (hf.mono fun x _ e => by rw [e]; exact List.mem_append_right _ List.mem_cons_self) _ (show RowS w' g _ none _ _ from ⟨hE, ?_, fun k' => ?_⟩) ?_⟩
 ·intro hh
  rcases List.mem_append.1 hh with hh | hh
  ·exact hap g hh List.mem_cons_self
  ·exact h.gF hh
 ·rw [JE]
  by_cases hk : k' = k
  ·subst hk
   simp only [if_pos]
   rw [hn] at ho hA ⊢
   refine ⟨A, C, rfl, HV (NM ho) (F := (Value.slice A l.length C).ownBlock.toList) (fun x hx hl => hf.block x hl (fun e => hap x (hn ▸ hx) (by rw [e]; exact List.mem_cons_self))) hA, fun b off p e => List.mem_append_left _ (hA b off p e)⟩
  ·simp only [if_neg hk]
   obtain ⟨A', C', h1, h2, h3⟩ := h.row k'
   exact ⟨A', C', h1, HV h2 (fun x hx hl => hf.block x hl (fun e => h.gF (e ▸ hx))) h3, fun b off p e => List.mem_append_right _ (h3 b off p e)⟩
 ·intro x hx
  left
  rcases List.mem_cons.1 (show x ∈ g :: ((Value.slice A n C).ownBlock.toList ++ F) from hx) with rfl | hx
  ·exact List.mem_append_right _ List.mem_cons_self
  ·rcases List.mem_append.1 hx with hx | hx
   ·exact List.mem_append_left _ hx
   ·exact List.mem_append_right _ (List.mem_cons_of_mem _ hx)
theorem Mem.mdN {m : Md} {a : MdA} (M : Mem w0 S Ls w) (i : Nat) (hi : Ls[i]? = some (As.mdp m a F)) : MdN w m a F := M.ok i _ hi
end
end
open Tryz
theorem r9 {L : List (List UInt8 × Value)} {f : List UInt8 → El} {is : List UInt8 → Bool} {x : El} (h : ∀ k, (CU L k).getD (.agg zeroEl.cells.toArray) = .agg (f k).cells.toArray ∧ (CU L k).isSome = is k) :
 ∀ k, (CU (DN L x.id (.agg (El.cells x).toArray)) k).getD (.agg zeroEl.cells.toArray) = .agg ((if k = x.id then x else f k)).cells.toArray ∧ (CU (DN L x.id (.agg (El.cells x).toArray)) k).isSome = (if k = x.id then true else is k) := fun k => by
 rw [G7]
 by_cases hk : k = x.id
 ·rw [if_pos hk, if_pos hk, if_pos hk]; exact ⟨rfl, rfl⟩
 ·rw [if_neg hk, if_neg hk, if_neg hk]; exact h k
theorem nE {m : Md} {r : List UInt8 → List (List UInt8)} {x : El} (h : ∀ k, (r k).length ≤ m.fls.length) : ∀ k, ((fun k' => if k' = x.id then (CE m.fls x.id).map (fun u : Fl => u.id) else r k') k).length ≤ m.fls.length := fun k => by
 simp only
 split
 ·rw [List.length_map]; exact EM _ _
 ·exact h k
theorem jF {L : List (List UInt8 × Value)} {f : List UInt8 → Fl} {is : List UInt8 → Bool} {x : Fl} (h : ∀ k, (CU L k).getD (.agg zeroFl.cells.toArray) = .agg (f k).cells.toArray ∧ (CU L k).isSome = is k) :
 ∀ k, (CU (DN L x.id (.agg (Fl.cells x).toArray)) k).getD (.agg zeroFl.cells.toArray) = .agg ((if k = x.id then x else f k)).cells.toArray ∧ (CU (DN L x.id (.agg (Fl.cells x).toArray)) k).isSome = (if k = x.id then true else is k) := fun k => by
 rw [G7]
 by_cases hk : k = x.id
 ·rw [if_pos hk, if_pos hk, if_pos hk]; exact ⟨rfl, rfl⟩
 ·rw [if_neg hk, if_neg hk, if_neg hk]; exact h k
def JF (f : Fl) : Bool := if (!decide (f.cond = [])) = true then !(!decide ((D6 f.cond).2.2 = (0 : Int))) else true
theorem TY {f : Fl} (h : (!decide (f.cond = [])) = false) : JF f = true := AT h
theorem S9 {f : Fl} (h : (!decide (f.cond = [])) = true) (h2 : (!decide ((D6 f.cond).2.2 = (0 : Int))) = false) : JF f = true := by rw [JF, if_pos h, h2]; rfl
theorem MV {l l' : List Fl} {f : Fl} (h : l.all JF = true) (hl : l' = l ++ [f]) (hf : JF f = true) : l'.all JF = true := by rw [hl, List.all_append, h]; simp [hf]
def LB (m : Md) : Bool := !(!decide ((OI m).2.2 = (0 : Int))) && m.fls.all JF
theorem YD {m : Md} (h : (!decide ((OI m).2.2 = (0 : Int))) = true) : LB m = false := by unfold LB; rw [h]; rfl
theorem YE {m : Md} {j : Nat} {f : Fl} (hf : m.fls[j]? = some f) (h : (!decide (f.cond = [])) = true) (h2 : (!decide ((D6 f.cond).2.2 = (0 : Int))) = true) : LB m = false := by
 have : m.fls.all JF = false := by
  rw [List.all_eq_false]
  exact ⟨f, List.mem_of_getElem? hf, by rw [JF, if_pos h, h2]; decide⟩
 unfold LB; rw [this, Bool.and_false]
theorem cG {m : Md} (h : (!decide ((OI m).2.2 = (0 : Int))) = false) (h2 : m.fls.all JF = true) : LB m = true := by unfold LB; rw [h, h2]; rfl
def CndS (w : World) (cn : List UInt8 → Option (List UInt8)) (aC : List UInt8 → Option Addr) (F : List Nat) : Prop := ∀ k s, cn k = some s → ∃ F', (D6 s).1.AtL 75 w (aC k) F' ∧ ∀ x ∈ F', x ∈ F
theorem CndS.keep {w w' : World} {cn : List UInt8 → Option (List UInt8)} {aC : List UInt8 → Option Addr} {F : List Nat} (h : CndS w cn aC F) (hk : ∀ g ∈ F, g < w.heap.size → w'.heap[g]? = w.heap[g]?) : CndS w' cn aC F := fun k s hc => by
 obtain ⟨F', h1, h2⟩ := h k s hc
 exact ⟨F', h1.keep (fun g hg => hk g (h2 g hg)), h2⟩
def As.cnd (cn : List UInt8 → Option (List UInt8)) (aC : List UInt8 → Option Addr) (F : List Nat) : As := ⟨F, fun w => CndS w cn aC F, fun h hb => hb.keep h⟩
theorem Mem.pushE {w0 w : World} {S : Nat → Prop} {Ls : List As} (M : Mem w0 S Ls w) (a : As) (h : a.ok w) (hf : a.fp = []) : Mem w0 S (a :: Ls) w := M.push Fr.refl a h (fun g hg => by rw [hf] at hg; cases hg)
theorem Mem.foldC {w0 w : World} {S : Nat → Prop} {Ls : List As} {AX : Option Addr} {FX FC : List Nat} {cn : List UInt8 → Option (List UInt8)} {aC : List UInt8 → Option Addr} (k s : List UInt8) (M : Mem w0 S (As.xn 75 (D6 s).1 AX FX :: As.cnd cn aC FC :: Ls) w) :
 Mem w0 S (As.cnd (fun k' => if k' = k then some s else cn k') (fun k' => if k' = k then AX else aC k') (FX ++ FC) :: Ls) w := by
 have h1 : (D6 s).1.AtL 75 w AX FX := M.ok 0 _ rfl
 have h2 : CndS w cn aC FC := M.ok 1 _ rfl
 refine M.joinFam _ (show CndS w _ _ _ from fun k' s' hc => ?_) (fun x hx => List.mem_append.1 hx)
 by_cases hk : k' = k
 ·rw [if_pos hk] at hc
  cases hc
  rw [if_pos hk]
  exact ⟨FX, h1, fun x hx => List.mem_append_left _ hx⟩
 ·rw [if_neg hk] at hc
  rw [if_neg hk]
  obtain ⟨F', h3, h4⟩ := h2 k' s' hc
  exact ⟨F', h3, fun x hx => List.mem_append_right _ (h4 x hx)⟩
theorem kI {LC : List (List UInt8 × Value)} {cn : List UInt8 → Option (List UInt8)} {aC : List UInt8 → Option Addr} {f : Fl} {AX : Option Addr} (h : ∀ k, CU LC k = (cn k).map (fun s => .agg ((D6 s).1.cells (aC k)).toArray)) :
 ∀ k, CU (DN LC f.id (.agg (Xn.cells (D6 f.cond).1 AX).toArray)) k = ((if k = f.id then some f.cond else cn k).map (fun s => .agg ((D6 s).1.cells (if k = f.id then AX else aC k)).toArray)) := fun k => by
 rw [G7]
 by_cases hk : k = f.id
 ·rw [if_pos hk, if_pos hk, if_pos hk]; rfl
 ·rw [if_neg hk, if_neg hk, if_neg hk]; exact h k
def atF (l : List El) : List UInt8 → El := l.foldl (fun f x => fun k => if k = x.id then x else f k) (fun _ => zeroEl)
def SW (l : List El) : List UInt8 → Bool := l.foldl (fun f x => fun k => if k = x.id then true else f k) (fun _ => false)
def UU (m : Md) (l : List El) : List UInt8 → List (List UInt8) := l.foldl (fun f x => fun k => if k = x.id then (EC m.fls x.id).map (fun u : Fl => u.id) else f k) (fun _ => [])
def KW (m : Md) (l : List El) : List UInt8 → List (List UInt8) := l.foldl (fun f x => fun k => if k = x.id then (CE m.fls x.id).map (fun u : Fl => u.id) else f k) (fun _ => [])
def flF (l : List Fl) : List UInt8 → Fl := l.foldl (fun f x => fun k => if k = x.id then x else f k) (fun _ => zeroFl)
def SV (l : List Fl) : List UInt8 → Bool := l.foldl (fun f x => fun k => if k = x.id then true else f k) (fun _ => false)
def cnF (l : List Fl) : List UInt8 → Option (List UInt8) := l.foldl (fun f x => if x.cond = [] then f else fun k => if k = x.id then some x.cond else f k) (fun _ => none)
theorem l8 (l : List El) (x : El) : atF (l ++ [x]) = fun k => if k = x.id then x else atF l k := by unfold atF; rw [List.foldl_append]; rfl
theorem cQ (l : List El) (x : El) : SW (l ++ [x]) = fun k => if k = x.id then true else SW l k := by unfold SW; rw [List.foldl_append]; rfl
theorem cR (m : Md) (l : List El) (x : El) : UU m (l ++ [x]) = fun k => if k = x.id then (EC m.fls x.id).map (fun u : Fl => u.id) else UU m l k := by unfold UU; rw [List.foldl_append]; rfl
theorem WF (m : Md) (l : List El) (x : El) : KW m (l ++ [x]) = fun k => if k = x.id then (CE m.fls x.id).map (fun u : Fl => u.id) else KW m l k := by unfold KW; rw [List.foldl_append]; rfl
theorem WX (l : List Fl) (x : Fl) : flF (l ++ [x]) = fun k => if k = x.id then x else flF l k := by unfold flF; rw [List.foldl_append]; rfl
theorem TP (l : List Fl) (x : Fl) : SV (l ++ [x]) = fun k => if k = x.id then true else SV l k := by unfold SV; rw [List.foldl_append]; rfl
theorem kJ {l : List Fl} {x : Fl} (h : x.cond = []) : cnF (l ++ [x]) = cnF l := by unfold cnF; rw [List.foldl_append]; exact if_pos h
theorem aK {l : List Fl} {x : Fl} (h : ¬ x.cond = []) : cnF (l ++ [x]) = fun k => if k = x.id then some x.cond else cnF l k := by unfold cnF; rw [List.foldl_append]; exact if_neg h
structure CrA where
 a : MdA
 gA : Nat
 gF : Nat
 gI : Nat
 gO : Nat
 gC : Nat
 LA : List (List UInt8 × Value)
 LF : List (List UInt8 × Value)
 LO : List (List UInt8 × Value)
 atf : List UInt8 → El
 isA : List UInt8 → Bool
 flf : List UInt8 → Fl
 isF : List UInt8 → Bool
 outs : List UInt8 → List (List UInt8)
 LI : List (List UInt8 × Value)
 ins : List UInt8 → List (List UInt8)
 LC : List (List UInt8 × Value)
 cnd : List UInt8 → Option (List UInt8)
 aC : List UInt8 → Option Addr
 FC : List Nat
def CrA.cells (m : Md) (c : CrA) : List Value := [str m.id, str m.nm, .slice c.a.V m.vars.length c.a.vc, .slice c.a.E m.els.length c.a.ec, .slice c.a.F m.fls.length c.a.fc, .map (some c.gA), .map (some c.gF), .map (some c.gI), .map (some c.gO), .map (some c.gC)]
structure CourseN (w : World) (m : Md) (gc : Nat) (c : CrA) (F : List Nat) : Prop where
 blk : Blk w gc 67 (c.cells m)
 md : MdN w m c.a F
 A : Mp w c.gA c.LA
 L : Mp w c.gF c.LF
 O : Mp w c.gO c.LO
 getA : ∀ k, (CU c.LA k).getD (.agg zeroEl.cells.toArray) = .agg (c.atf k).cells.toArray
 isA : ∀ k, (CU c.LA k).isSome = c.isA k
 getL : ∀ k, (CU c.LF k).getD (.agg zeroFl.cells.toArray) = .agg (c.flf k).cells.toArray
 isL : ∀ k, (CU c.LF k).isSome = c.isF k
 getO : ∀ k, (CU c.LO k).getD (.slice none 0 0) = .slice (N0 (FK c.LO k)) (c.outs k).length (Y4 (FK c.LO k))
 rdO : ∀ k, Rd w (N0 (FK c.LO k)) ((c.outs k).length * 1) (AH BY (c.outs k))
 I : Mp w c.gI c.LI
 C : Mp w c.gC c.LC
 getI : ∀ k, (CU c.LI k).getD (.slice none 0 0) = .slice (N0 (FK c.LI k)) (c.ins k).length (Y4 (FK c.LI k))
 rdI : ∀ k, Rd w (N0 (FK c.LI k)) ((c.ins k).length * 1) (AH BY (c.ins k))
 getC : ∀ k, CU c.LC k = (c.cnd k).map (fun s => .agg ((D6 s).1.cells (c.aC k)).toArray)
 ndC : CndS w c.cnd c.aC c.FC
 eA : c.atf = atF m.els
 eB : c.isA = SW m.els
 eI : c.ins = UU m m.els
 eO : c.outs = KW m m.els
 eL : c.flf = flF m.fls
 eM : c.isF = SV m.fls
 eC : c.cnd = cnF m.fls
 inF : gc ∈ F ∧ c.gA ∈ F ∧ c.gF ∈ F ∧ c.gO ∈ F ∧ c.gI ∈ F ∧ c.gC ∈ F
 inI : ∀ k b off p, N0 (FK c.LI k) = some ⟨b, off, p⟩ → b ∈ F
 inC : ∀ x ∈ c.FC, x ∈ F
 inO : ∀ k b off p, N0 (FK c.LO k) = some ⟨b, off, p⟩ → b ∈ F
 lenO : ∀ k, (c.outs k).length ≤ m.fls.length
theorem MdN.mono {w : World} {m : Md} {a : MdA} {F F' : List Nat} (h : MdN w m a F) (hF : ∀ x ∈ F, x ∈ F') : MdN w m a F' := ⟨h.md, fun b off p e => hF b (h.V b off p e), fun b off p e => hF b (h.E b off p e), fun b off p e => hF b (h.L b off p e)⟩
theorem CourseN.keep {w w' : World} {m : Md} {gc : Nat} {c : CrA} {F : List Nat} (hk : ∀ g ∈ F, g < w.heap.size → w'.heap[g]? = w.heap[g]?) (h : CourseN w m gc c F) : CourseN w' m gc c F :=
 ⟨(hk gc h.inF.1 h.blk.lt).trans h.blk, h.md.keep hk, JR h.A hk h.inF.2.1, JR h.L hk h.inF.2.2.1, JR h.O hk h.inF.2.2.2.1, h.getA, h.isA, h.getL, h.isL, h.getO, fun k => HV (h.rdO k) hk (h.inO k), JR h.I hk h.inF.2.2.2.2.1, JR h.C hk h.inF.2.2.2.2.2, h.getI, fun k => HV (h.rdI k) hk (h.inI k), h.getC, h.ndC.keep (fun g hg => hk g (h.inC g hg)), h.eA, h.eB, h.eI, h.eO, h.eL, h.eM, h.eC, h.inF, h.inI, h.inC, h.inO, h.lenO⟩
theorem n9 {m : Md} {a' : MdA} {w w' : World} {g31 g25 g26 g27 g28 g29 : Nat} {F0 FO FI FC : List Nat} {LA LF LO LI LC : List (List UInt8 × Value)} {atf : List UInt8 → El} {isA isF : List UInt8 → Bool} {flf : List UInt8 → Fl} {rO rI : List UInt8 → List (List UInt8)} {cn : List UInt8 → Option (List UInt8)} {aC : List UInt8 → Option Addr} {Ls : List As}
 (M : Mem w B0 (As.blk g31 67 [str m.id, str m.nm, .slice a'.V m.vars.length a'.vc, .slice a'.E m.els.length a'.ec, .slice a'.F m.fls.length a'.fc, .map (some g25), .map (some g26), .map (some g27), .map (some g28), .map (some g29)] :: As.mdp m a' F0 :: As.mpS g25 LA none :: As.mp g26 LF :: As.rowS g28 LO none rO FO :: As.rowS g27 LI none rI FI :: As.mp g29 LC :: As.cnd cn aC FC :: Ls) w')
 (h1 : ∀ k, (CU LA k).getD (.agg zeroEl.cells.toArray) = .agg (atf k).cells.toArray) (h2 : ∀ k, (CU LA k).isSome = isA k) (h3 : ∀ k, (CU LF k).getD (.agg zeroFl.cells.toArray) = .agg (flf k).cells.toArray) (h4 : ∀ k, (CU LF k).isSome = isF k) (h5 : ∀ k, (rO k).length ≤ m.fls.length)
 (h6 : ∀ k, CU LC k = (cn k).map (fun s => .agg ((D6 s).1.cells (aC k)).toArray)) (e1 : atf = atF m.els) (e2 : isA = SW m.els) (e3 : rI = UU m m.els) (e4 : rO = KW m m.els) (e5 : flf = flF m.fls) (e6 : isF = SV m.fls) (e7 : cn = cnF m.fls) :
 ∃ gc c F, Ending.returned (.tuple #[pg g31, AJ 0]) = .returned (.tuple #[pg gc, AJ 0]) ∧ CourseN w' m gc c F ∧ ∀ g ∈ F, w.heap.size ≤ g ∧ g < w'.heap.size := by
 have hR : RowS w' g28 LO none rO FO := M.ok 4 _ rfl
 have hA : MpB w' g25 LA := M.ok 2 _ rfl
 have hO : MpB w' g28 LO := hR.map
 have hI : RowS w' g27 LI none rI FI := M.ok 5 _ rfl
 have hIm : MpB w' g27 LI := hI.map
 have hv : ∀ {g : Nat} {L : List (List UInt8 × Value)} {r : List UInt8 → List (List UInt8)} {F : List Nat}, RowS w' g L none r F → ∀ k, (CU L k).getD (.slice none 0 0) = .slice (N0 (FK L k)) (r k).length (Y4 (FK L k)) ∧ Rd w' (N0 (FK L k)) ((r k).length * 1) (AH BY (r k)) ∧ ∀ b off p, N0 (FK L k) = some ⟨b, off, p⟩ → b ∈ F := fun {g L r F} hR k => by
  obtain ⟨A, C, e1, e2, e3⟩ := hR.row k
  rw [show (CU L k).getD (.slice none 0 0) = FK L k from rfl, e1]
  exact ⟨rfl, e2, e3⟩
 refine ⟨g31, ⟨a', g25, g26, g27, g28, g29, LA, LF, LO, atf, isA, flf, isF, rO, LI, rI, LC, cn, aC, FC⟩, g31 :: g25 :: g26 :: g28 :: g27 :: g29 :: (F0 ++ (FO ++ (FI ++ FC))), rfl, ⟨M.blk 0 rfl, (M.mdN 1 rfl).mono (fun x hx => by simp [hx]), hA.mp, M.mp 3 rfl, hO.mp, h1, h2, h3, h4, fun k => (hv hR k).1, fun k => (hv hR k).2.1, hIm.mp, M.mp 6 rfl, fun k => (hv hI k).1, fun k => (hv hI k).2.1, h6, M.ok 7 _ rfl, e1, e2, e3, e4, e5, e6, e7, ⟨by simp, by simp, by simp, by simp, by simp, by simp⟩, fun k b off p e => by simp [(hv hI k).2.2 b off p e], fun x hx => by simp [show x ∈ FC from hx], fun k b off p e => by simp [(hv hR k).2.2 b off p e], h5⟩, ?_⟩
 intro g hg
 simp only [List.mem_cons, List.mem_append] at hg
 rcases hg with rfl | rfl | rfl | rfl | rfl | rfl | hg | hg | hg | hg
 ·exact M.new0 0 rfl _ (by simp [As.blk])
 ·exact M.new0 2 rfl _ (by simp [As.mpS])
 ·exact M.new0 3 rfl _ (by simp [As.mp])
 ·exact M.new0 4 rfl _ List.mem_cons_self
 ·exact M.new0 5 rfl _ List.mem_cons_self
 ·exact M.new0 6 rfl _ (by simp [As.mp])
 ·exact M.new0 1 rfl g hg
 ·exact M.new0 4 rfl g (List.mem_cons_of_mem _ hg)
 ·exact M.new0 5 rfl g (List.mem_cons_of_mem _ hg)
 ·exact M.new0 7 rfl g hg
theorem JH (c0_0 c0_1 c0_2 c0_3 c0_4 : Value) (a1 : Option Nat) (a2 : Option Nat) (a3 : Option Nat) (a4 : Option Nat) (a5 : Option Nat) : prog.built 67 [(0, .agg #[c0_0, c0_1, c0_2, c0_3, c0_4]), (1, .map a1), (2, .map a2), (3, .map a3), (4, .map a4), (5, .map a5)] = some #[c0_0, c0_1, c0_2, c0_3, c0_4, .map a1, .map a2, .map a3, .map a4, .map a5] := by kernel_rfl
theorem DH : (prog.info? 36).map (·.zero) = some (some (.slice none 0 0)) := by kernel_rfl
theorem iF (m : Md) (a : MdA) (w : World) (ho : MdOk m) (hM : MdIn w m a) (hY : Lay0 w) :
 Calls prog 7 #[.agg (Md.cells m a).toArray] w fun e w' => ((LB m = true ∧ ∃ gc c F, e = .returned (.tuple #[pg gc, AJ 0]) ∧ CourseN w' m gc c F ∧ ∀ g ∈ F, w.heap.size ≤ g ∧ g < w'.heap.size) ∨ (LB m = false ∧ e = .returned (.tuple #[.pointer none, AJ 140]))) ∧ Fr0 w w' := by
 have hne := ho.nels
 have hnf := ho.nfls
 refine C5 func7 ntmps7 rfl fun M => srg (CR M rfl rfl fun g1 w1 hg1 M => yb rfl (AY rfl (AF (srg (CW M 0 rfl rfl underlying26 C0 rfl (D4 M 17 rfl rfl call15 (UI m a _ ho (hM.fr0 M.fr) (hY.fr0 M.fr)) fun w2 M => ?_))))))
 iterate 7 refine yb rfl ?_
 refine nq (AQ rfl (DA rfl rfl (nq (AL rfl (fun h22 => ?_) (fun h22 => ?_)))))
 ·exact AQ rfl (yb rfl (gnr (AB (CI rfl rfl rfl ⟨.inr ⟨YD h22, rfl⟩, M.fr⟩))))
 ·have h22p := (odt (BQ h22))
  refine AI (AD (srg (CW M 0 rfl rfl underlying26 C0 rfl (cl 24 rfl (AP rfl rfl call16) (lY m a _ ho (hM.fr0 M.fr)) ?_))))
  rintro _ w3 ⟨a', F0, rfl, hmd, hnw, hfw3⟩
  refine ⟨_, rfl, ?_⟩
  have M := M.push hfw3 (As.mdp m a' F0) hmd hnw
  refine RC M (AA rfl) rfl rfl rfl fun g25 w4 hg25 M => ID M (AA rfl) rfl rfl rfl fun g26 w5 hg26 M => RC M (AA rfl) rfl rfl rfl fun g27 w6 hg27 M => ?_
  have M := M.toRow 0 rfl
  refine RC M (AA rfl) rfl rfl rfl fun g28 w7 hg28 M => ?_
  have M := M.toRow 0 rfl
  refine ID M (AA rfl) rfl rfl rfl fun g29 w8 hg29 M => ya rfl (BA (parts := [(0, _), (1, _), (2, _), (3, _), (4, _), (5, _)]) rfl rfl (JH _ _ _ _ _ _ _ _ _ _)) (E3 M (AA rfl) rfl rfl 67 rfl rfl ([str m.id, str m.nm, .slice a'.V m.vars.length a'.vc, .slice a'.E m.els.length a'.ec, .slice a'.F m.fls.length a'.fc, .map (some g25), .map (some g26), .map (some g27), .map (some g28), .map (some g29)]) rfl fun g31 w9 hg31 M => AY rfl (AF (srg ?_)))
  iterate 4 refine yb rfl ?_
  refine BC M 0 rfl rfl rfl (ya rfl (C3 rfl rfl (sl rfl)) (AY rfl (AS (flp [37, 36, 7, 1] (fun ze e wr mz => ∃ (i : Nat) (LA : List (List UInt8 × Value)) (atf : List UInt8 → El) (isA : List UInt8 → Bool) (LI : List (List UInt8 × Value)) (rI : List UInt8 → List (List UInt8)) (FI : List Nat) (LO : List (List UInt8 × Value)) (rO : List UInt8 → List (List UInt8)) (FO : List Nat), e = (38, AJ ((i : Nat) : Int)) :: ze ∧ Mem w B0 [As.blk g31 67 [str m.id, str m.nm, .slice a'.V m.vars.length a'.vc, .slice a'.E m.els.length a'.ec, .slice a'.F m.fls.length a'.fc, .map (some g25), .map (some g26), .map (some g27), .map (some g28), .map (some g29)], As.mp g29 [], As.rowS g28 LO none rO FO, As.rowS g27 LI none rI FI, As.mp g26 [], As.mpS g25 LA none, As.mdp m a' F0, As.blk g1 26 (Md.cells m a)] wr ∧ (i ≤ m.els.length) ∧ (∀ k, (CU LA k).getD (.agg zeroEl.cells.toArray) = .agg (atf k).cells.toArray ∧ (CU LA k).isSome = isA k) ∧ (∀ k, (rO k).length ≤ m.fls.length) ∧ (atf = atF (m.els.take i)) ∧ (isA = SW (m.els.take i)) ∧ (rI = UU m (m.els.take i)) ∧ (rO = KW m (m.els.take i)) ∧ mz = m.els.length - i) ⟨0, [], (fun _ => zeroEl), (fun _ => false), [], (fun _ => []), [], [], (fun _ => []), [], rfl, M, Nat.zero_le _, fun _ => ⟨rfl, rfl⟩, fun _ => Nat.zero_le _, rfl, rfl, rfl, rfl, rfl⟩ ?_))))
  rintro _ w10 _ ⟨i, LA, atf, isA, LI, rI, FI, LO, rO, FO, rfl, M, hi, hA, hOl, hAe, hBe, hIe, hOe, rfl⟩
  refine srg (CF rfl rfl (nq (AF (AL rfl (fun h39 => ?_) (fun h39 => ?_)))))
  ·have h39p := (odt h39)
   refine AI (AD (AF (AS (srg ?_))))
   obtain ⟨x, hx⟩ := CC (l := m.els) (i := i) AM
   obtain ⟨b_x, o_x, hA_x⟩ := BI (k := 11) AM ((M.mdN 6 rfl).md.els) hx
   refine ya rfl (B1 i hA_x rfl rfl rfl (sl rfl) AM) (ya rfl (AU rfl rfl (BV El.len ((M.mdN 6 rfl).md.els) hA_x hx) underlying69 rfl B2) (DC M rfl B6 fun g9 w11 hg9 M => C4 M 0 rfl rfl B2 rfl fun w12 M => nq (CV 36 (fun w' => Mem w B0 [As.blk g9 69 (El.cells x), As.blk g31 67 [str m.id, str m.nm, .slice a'.V m.vars.length a'.vc, .slice a'.E m.els.length a'.ec, .slice a'.F m.fls.length a'.fc, .map (some g25), .map (some g26), .map (some g27), .map (some g28), .map (some g29)], As.mp g29 [], As.mp g26 [], As.mdp m a' F0, As.blk g1 26 (Md.cells m a)] w') CZ ?_)))
   have M := M.drew
   refine oc 0 36 rfl rfl (M.pk [0, 1, 2, 5, 7, 8]) (oc 1 36 rfl rfl (M.pk [0, 1, 2, 5, 7, 8]) (oc 2 36 rfl rfl (M.pk [0, 1, 2, 5, 7, 8]) (ol 3 36 rfl rfl rfl (M.pk [0, 1, 2, 5, 7, 8]) (fun _ M => (M.cell 1 rfl rfl)) (oc 4 36 rfl rfl (M.pk [0, 1, 2, 5, 7, 8]) (ol 5 36 rfl rfl rfl (M.pk [0, 1, 2, 5, 7, 8]) (fun _ M => (M.cell 0 rfl rfl)) (oc 6 36 rfl rfl (M.pk [0, 1, 2, 5, 7, 8]) (oc 7 36 rfl rfl (M.pk [0, 1, 2, 5, 7, 8]) (oc 8 36 rfl rfl (M.pk [0, 1, 2, 5, 7, 8]) (ol 9 36 rfl rfl rfl (M.pk [0, 1, 2, 5, 7, 8]) (fun _ M => (M.cell 1 rfl rfl)) (oc 10 36 rfl rfl (M.pk [0, 1, 2, 5, 7, 8]) (ol 11 36 rfl rfl rfl (M.pk [0, 1, 2, 5, 7, 8]) (fun _ M => (M.cell 0 rfl rfl)) (oc 12 36 rfl rfl (M.pk [0, 1, 2, 5, 7, 8]) (oc 13 36 rfl rfl (M.pk [0, 1, 2, 5, 7, 8]) (oc 14 36 rfl rfl (M.pk [0, 1, 2, 5, 7, 8]) (ol 15 36 rfl rfl rfl (M.pk [0, 1, 2, 5, 7, 8]) (fun _ M => (M.cell 1 rfl rfl)) ?_)))))))))))))))
   refine oc 16 36 rfl rfl (M.pk [0, 1, 2, 5, 7, 8]) (ol 17 36 rfl rfl rfl (M.pk [0, 1, 2, 5, 7, 8]) (fun _ M => (M.cell 0 rfl rfl)) (oa 18 36 rfl rfl (M.pk [0, 1, 2, 5, 7, 8]) (fun _ M => AU (xs := El.cells x) rfl rfl (M.rdBlk 0 rfl rfl) underlying69 rfl B2) (oa 19 36 rfl rfl (M.pk [0, 1, 2, 5, 7, 8]) (fun _ M => AU (xs := Md.cells m a) rfl rfl (M.rdBlk 5 rfl rfl) underlying26 rfl C0) (oc 20 36 rfl rfl (M.pk [0, 1, 2, 5, 7, 8]) (ol 21 36 rfl rfl rfl (M.pk [0, 1, 2, 5, 7, 8]) (fun _ M => (M.cell 0 rfl rfl)) (oa 23 36 rfl rfl (M.pk [0, 1, 2, 5, 7, 8]) (fun _ M => AU (xs := Md.cells m a) rfl rfl (M.rdBlk 5 rfl rfl) underlying26 rfl C0) (oc 24 36 rfl rfl (M.pk [0, 1, 2, 5, 7, 8]) (ol 25 36 rfl rfl rfl (M.pk [0, 1, 2, 5, 7, 8]) (fun _ M => (M.cell 0 rfl rfl)) (C7 22 (some 64) gkr rfl (AA rfl) rfl rfl (AP rfl rfl call17) (nN m a x.id _ ho (hM.fr0 M.fr)) ?_)))))))))
   rintro _ w13 ⟨A64, c64, rfl, how13, hfw13⟩
   refine ⟨_, rfl, fun _ => (M.pk [0, 1, 2, 5, 7, 8]).step hfw13, ?_⟩
   have M := M.pushOwn hfw13 (Nat.le_refl _) how13
   have hL64 := M.ownLen 0 rfl
   refine C7 26 (some 68) gkr rfl (AA rfl) rfl rfl (AP rfl rfl call18) (gY m a x.id _ ho (hM.fr0 M.fr)) ?_
   rintro _ w14 ⟨A68, c68, rfl, how14, hfw14⟩
   refine ⟨_, rfl, fun _ => (M.pk [1, 2, 3, 6, 8, 9]).step hfw14, ?_⟩
   have M := M.pushOwn hfw14 (Nat.le_refl _) how14
   have hL68 := M.ownLen 0 rfl
   refine BB 27 (some 69) gkr rfl (AA rfl) rfl rfl (fun ρ hρ => K3 rfl (hρ _ _ rfl) (hρ _ _ rfl) underlying62 underlying9 B6 (M.mpS 8 rfl)) ?_
   rintro _ w15 ⟨b69, rfl, hfw15, hEw15⟩
   have M := M.entA 8 rfl hfw15 hEw15
   refine ⟨fun _ => (M.pk [2, 3, 4, 7, 9, 10]), oc 28 36 rfl rfl (M.pk [2, 3, 4, 7, 9, 10]) (BB 29 none gkr rfl (AA rfl) rfl rfl (fun ρ hρ => IQ rfl (hρ _ _ rfl) (hρ _ _ rfl) (hρ _ _ rfl) (M.mpS 8 rfl)) ?_)⟩
   rintro _ w16 ⟨rfl, hfw16, hbw16⟩
   rw [KC] at hbw16
   have M := M.putA 8 rfl hfw16 hbw16
   refine ⟨fun _ => (M.pk [2, 3, 4, 7, 9, 10]), BB 30 (some 71) gkr rfl (AA rfl) rfl rfl (fun ρ hρ => K3 rfl (hρ _ _ rfl) (hρ _ _ rfl) underlying64 underlying9 DH ((M.rowS 6 rfl).map)) ?_⟩
   rintro _ w17 ⟨b71, rfl, hfw17, hEw17⟩
   have M := M.entR 6 rfl hfw17 hEw17
   refine ⟨fun _ => (M.pk [2, 3, 4, 7, 9, 10]), oc 31 36 rfl rfl (M.pk [2, 3, 4, 7, 9, 10]) (BB 32 none gkr rfl (AA rfl) rfl rfl (fun ρ hρ => IQ rfl (hρ _ _ rfl) (hρ _ _ rfl) (hρ _ _ rfl) ((M.rowS 6 rfl).map)) ?_)⟩
   rintro _ w18 ⟨rfl, hfw18, hbw18⟩
   obtain ⟨F2I, M⟩ := Mem.putR (M.pk [1, 6, 0, 2, 3, 4, 5, 7, 8, 9, 10]) hfw18 hbw18 rfl
   rw [KC] at M
   have M := M.pk [1, 2, 3, 4, 5, 0, 6, 7, 8, 9]
   refine ⟨fun _ => (M.pk [1, 2, 3, 6, 8, 9]), BB 33 (some 73) gkr rfl (AA rfl) rfl rfl (fun ρ hρ => K3 rfl (hρ _ _ rfl) (hρ _ _ rfl) underlying64 underlying9 DH ((M.rowS 4 rfl).map)) ?_⟩
   rintro _ w19 ⟨b73, rfl, hfw19, hEw19⟩
   have M := M.entR 4 rfl hfw19 hEw19
   refine ⟨fun _ => (M.pk [1, 2, 3, 6, 8, 9]), oc 34 36 rfl rfl (M.pk [1, 2, 3, 6, 8, 9]) (BB 35 none gkr rfl (AA rfl) rfl rfl (fun ρ hρ => IQ rfl (hρ _ _ rfl) (hρ _ _ rfl) (hρ _ _ rfl) ((M.rowS 4 rfl).map)) ?_)⟩
   rintro _ w20 ⟨rfl, hfw20, hbw20⟩
   obtain ⟨F2O, M⟩ := Mem.putR (M.pk [0, 4, 1, 2, 3, 5, 6, 7, 8, 9]) hfw20 hbw20 rfl
   rw [KC] at M
   have M := M.pk [1, 2, 3, 0, 4, 5, 6, 7, 8]
   refine ⟨fun _ => (M.pk [0, 1, 2, 5, 7, 8]), fdn (AE (AD (AK (ya rfl (BO rfl rfl rfl AM) (yb rfl (AR (fag ⟨i + 1, (DN LA x.id (.agg (El.cells x).toArray)), (fun k => if k = x.id then x else atf k), (fun k => if k = x.id then true else isA k), (DN LI x.id (.slice A64 (((EC m.fls x.id).map (fun u : Fl => u.id)).length) c64)), (fun k' => if k' = x.id then ((EC m.fls x.id).map (fun u : Fl => u.id)) else rI k'), F2I, (DN LO x.id (.slice A68 (((CE m.fls x.id).map (fun u : Fl => u.id)).length) c68)), (fun k' => if k' = x.id then ((CE m.fls x.id).map (fun u : Fl => u.id)) else rO k'), F2O, rfl, (M.pk [1, 2, 3, 4, 5, 6, 7, 8]), ?_, ?_, ?_, ?_, ?_, ?_, ?_, rfl⟩)))))))⟩
   ·omega
   ·exact r9 hA
   ·exact nE hOl
   ·rw [B4 hx, l8, ← hAe]
   ·rw [B4 hx, cQ, ← hBe]
   ·rw [B4 hx, cR, ← hIe]
   ·rw [B4 hx, WF, ← hOe]
  ·have h39p := (odf h39)
   refine BF (AG (AG ?_))
   have hiE : i = m.els.length := by omega
   rw [hiE, List.take_length] at hAe hBe hIe hOe
   refine AV (AD (AF (srg ?_)))
   iterate 4 refine yb rfl ?_
   refine BC M 0 rfl rfl rfl (ya rfl (C3 rfl rfl (sl rfl)) (AY rfl (AS ?_)))
   have M := M.pushE (As.cnd (fun _ => none) (fun _ => none) []) (fun _ _ h => by cases h) rfl
   refine flp [81, 80, 7] (fun ze e wr mz => ∃ (j : Nat) (LF : List (List UInt8 × Value)) (flf : List UInt8 → Fl) (isF : List UInt8 → Bool) (LC : List (List UInt8 × Value)) (cn : List UInt8 → Option (List UInt8)) (aC : List UInt8 → Option Addr) (FC : List Nat), e = (82, AJ ((j : Nat) : Int)) :: ze ∧ Mem w B0 [As.cnd cn aC FC, As.blk g31 67 [str m.id, str m.nm, .slice a'.V m.vars.length a'.vc, .slice a'.E m.els.length a'.ec, .slice a'.F m.fls.length a'.fc, .map (some g25), .map (some g26), .map (some g27), .map (some g28), .map (some g29)], As.mp g29 LC, As.rowS g28 LO none rO FO, As.rowS g27 LI none rI FI, As.mp g26 LF, As.mpS g25 LA none, As.mdp m a' F0, As.blk g1 26 (Md.cells m a)] wr ∧ (j ≤ m.fls.length) ∧ (∀ k, (CU LF k).getD (.agg zeroFl.cells.toArray) = .agg (flf k).cells.toArray ∧ (CU LF k).isSome = isF k) ∧ ((m.fls.take j).all JF = true) ∧ (∀ k, CU LC k = (cn k).map (fun s => .agg ((D6 s).1.cells (aC k)).toArray)) ∧ (flf = flF (m.fls.take j)) ∧ (isF = SV (m.fls.take j)) ∧ (cn = cnF (m.fls.take j)) ∧ mz = m.fls.length - j) ⟨0, [], (fun _ => zeroFl), (fun _ => false), [], (fun _ => none), (fun _ => none), [], rfl, M, Nat.zero_le _, fun _ => ⟨rfl, rfl⟩, rfl, fun _ => rfl, rfl, rfl, rfl, rfl⟩ ?_
   rintro _ w21 _ ⟨j, LF, flf, isF, LC, cn, aC, FC, rfl, M, hj, hFl, hC, hCn, hFe, hGe, hCe, rfl⟩
   refine srg (CF rfl rfl (nq (AF (AL rfl (fun h83 => ?_) (fun h83 => ?_)))))
   ·have h83p := (odt h83)
    refine AI (AD (AF (AS (srg ?_))))
    obtain ⟨f, hf⟩ := CC (l := m.fls) (i := j) AM
    obtain ⟨b_f, o_f, hA_f⟩ := BI (k := 4) AM ((M.mdN 7 rfl).md.fls) hf
    refine ya rfl (B1 j hA_f rfl rfl rfl (sl rfl) AM) (ya rfl (AU rfl rfl (BV Fl.len ((M.mdN 7 rfl).md.fls) hA_f hf) underlying72 rfl D3) (DC M rfl FF fun g11 w22 hg11 M => C4 M 0 rfl rfl D3 rfl fun w23 M => nq (AF (DP 7 CZ gkr ?_))))
    have M := M.drew
    refine sb rfl (sb rfl (sb rfl (FL M 2 rfl rfl rfl (sb rfl (FL M 0 rfl rfl rfl (sa rfl (AU (xs := Fl.cells f) rfl rfl (M.rdBlk 0 rfl rfl) underlying72 rfl D3) (CS (FZ M 6 (AA rfl) rfl rfl rfl rfl rfl underlying63 underlying9 rfl fun w24 M => nq (AQ rfl (BC M 0 rfl rfl rfl ?_))))))))))
    refine ya rfl (FP rfl rfl rfl) (nq (AL rfl (fun h95 => ?_) (fun h95 => ?_)))
    ·have h95p := (odf (CK h95))
     refine AQ rfl (BC M 0 rfl rfl rfl (cl 99 rfl (AP rfl rfl call19) (W8 f.cond _ (by have := (ho.fls f (List.mem_of_getElem? hf)).cond; omega) (hY.fr0 M.fr)) ?_))
     rintro _ w25 ⟨AX, FX, rfl, hat, hnx, hfw25⟩
     refine ⟨_, rfl, ?_⟩
     have M := M.push hfw25 (As.xn 75 (D6 f.cond).1 AX FX) hat hnx
     iterate 4 refine yb rfl ?_
     refine DC M rfl DD fun g12 w26 hg12 M => C4 M 0 rfl rfl AZ rfl fun w27 M => yb rfl (AY rfl (AF (AQ rfl (DA rfl rfl (nq (AL rfl (fun h104 => ?_) (fun h104 => ?_)))))))
     ·exact AQ rfl (yb rfl (gnr (AB (AN (AB (AB (AN (AB (CI rfl rfl rfl ⟨.inr ⟨YE hf h95 h104, rfl⟩, M.fr⟩)))))))))
     ·have h104p := (odt (BQ h104))
      refine AI (AD (DP 7 CZ gkr ?_))
      have M := M.drew
      refine sb rfl (sb rfl (sb rfl (FL M 4 rfl rfl rfl (sb rfl (FL M 2 rfl rfl rfl (sa rfl (AU (xs := Xn.cells (D6 f.cond).1 AX) rfl rfl (M.rdBlk 0 rfl rfl) underlying75 rfl AZ) (CS (FZ M 5 (AA rfl) rfl rfl rfl rfl rfl underlying65 underlying9 rfl fun w28 M => AR (AE (AD (AK (ya rfl (BO rfl rfl rfl AM) (yb rfl ?_)))))))))))))
      refine AR ?_
      have M := Mem.foldC f.id f.cond (M.pk [1, 3, 0, 2, 4, 5, 6, 7, 8, 9, 10, 11])
      refine fag ⟨j + 1, DN LF f.id (.agg (Fl.cells f).toArray), (fun k => if k = f.id then f else flf k), (fun k => if k = f.id then true else isF k), DN LC f.id (.agg (Xn.cells (D6 f.cond).1 AX).toArray), (fun k' => if k' = f.id then some f.cond else cn k'), (fun k' => if k' = f.id then AX else aC k'), (FX ++ FC), rfl, (M.pk [0, 3, 4, 5, 6, 7, 8, 9, 10]), ?_, ?_, ?_, ?_, ?_, ?_, ?_, rfl⟩
      ·omega
      ·exact jF hFl
      ·first
        | exact MV hC (B4 hf) (TY h95)
        | exact MV hC (B4 hf) (S9 h95 h104)
      ·first
        | exact hCn
        | exact kI hCn
      ·rw [B4 hf, WX, ← hFe]
      ·rw [B4 hf, TP, ← hGe]
      ·first
        | rw [B4 hf, kJ h95p, ← hCe]
        | rw [B4 hf, aK h95p, ← hCe]
    ·have h95p := (odt (BQ h95))
     refine AI (AE (AD (AK (ya rfl (BO rfl rfl rfl AM) (yb rfl (AR (fag ⟨j + 1, DN LF f.id (.agg (Fl.cells f).toArray), (fun k => if k = f.id then f else flf k), (fun k => if k = f.id then true else isF k), LC, cn, aC, FC, rfl, (M.pk [1, 2, 3, 4, 5, 6, 7, 8, 9]), ?_, ?_, ?_, ?_, ?_, ?_, ?_, rfl⟩)))))))
     ·omega
     ·exact jF hFl
     ·first
       | exact MV hC (B4 hf) (TY h95)
       | exact MV hC (B4 hf) (S9 h95 h104)
     ·first
       | exact hCn
       | exact kI hCn
     ·rw [B4 hf, WX, ← hFe]
     ·rw [B4 hf, TP, ← hGe]
     ·first
       | rw [B4 hf, kJ h95p, ← hCe]
       | rw [B4 hf, aK h95p, ← hCe]
   ·have h83p := (odf h83)
    refine BF (AG (AG ?_))
    have hjE : j = m.fls.length := by omega
    rw [hjE, List.take_length] at hC hFe hGe hCe
    exact AV (AD (AQ rfl (BM rfl rfl (gnr (CI rfl rfl rfl ⟨.inl ⟨cG h22 hC, n9 (M.pk [1, 7, 6, 5, 3, 4, 2, 0]) (fun k => (hA k).1) (fun k => (hA k).2) (fun k => (hFl k).1) (fun k => (hFl k).2) hOl hCn hAe hBe hIe hOe hFe hGe hCe⟩, M.fr⟩)))))
end Go.Proofs.YtjaocmocdhckaaaGreatDoor
