/- Lemmas that the last text rests on. Condition: each says its own. -/
import Derived.Test.YtadgfojhjnkliaaGreatDoorZMv2
import Derived.Test.YtadgfojhjnkliaaGreatDoorZRu10
set_option maxHeartbeats 16000000
set_option maxRecDepth 100000
namespace Go.Proofs.YtadgfojhjnkliaaGreatDoor
open Go.RowKit
def MpS (w : World) (g : Nat) (L : List (List UInt8 × Value)) : Option (List UInt8 × Nat) → Prop
 | none => MpB w g L
 | some (k, b) => EntAt w g L k b
theorem MpS.keep {w w' : World} {g : Nat} {L : List (List UInt8 × Value)} {st : Option (List UInt8 × Nat)} (hk : g < w.heap.size → w'.heap[g]? = w.heap[g]?) (h : MpS w g L st) : MpS w' g L st := by
 cases st with
 | none => exact MpB.keep hk h
 | some p => obtain ⟨k, b⟩ := p; exact EntAt.keep hk h
def As.mpS (g : Nat) (L : List (List UInt8 × Value)) (st : Option (List UInt8 × Nat)) : As := ⟨[g], fun w => MpS w g L st, fun h hb => hb.keep (h g (by simp))⟩
structure RowS (w : World) (g : Nat) (L : List (List UInt8 × Value)) (st : Option (List UInt8 × Nat)) (rows : List UInt8 → List (List UInt8)) (F : List Nat) : Prop where
 map : MpS w g L st
 gF : ¬ g ∈ F
 row : ∀ k, ∃ A C, EB L k = .slice A (rows k).length C ∧ Rd w A ((rows k).length * 1) (AR C4 (rows k)) ∧ ∀ b off p, A = some ⟨b, off, p⟩ → b ∈ F
theorem RowS.keep {w w' : World} {g : Nat} {L : List (List UInt8 × Value)} {st : Option (List UInt8 × Nat)} {rows : List UInt8 → List (List UInt8)} {F : List Nat} (hk : ∀ x ∈ g :: F, x < w.heap.size → w'.heap[x]? = w.heap[x]?) (h : RowS w g L st rows F) : RowS w' g L st rows F :=
 ⟨h.map.keep (hk g (by simp)), h.gF, fun k => by
  obtain ⟨A, C, h1, h2, h3⟩ := h.row k
  exact ⟨A, C, h1, GS h2 (fun x hx => hk x (List.mem_cons_of_mem _ hx)) h3, h3⟩⟩
def As.rowS (g : Nat) (L : List (List UInt8 × Value)) (st : Option (List UInt8 × Nat)) (rows : List UInt8 → List (List UInt8)) (F : List Nat) : As := ⟨g :: F, fun w => RowS w g L st rows F, fun h hb => hb.keep h⟩
def As.both (a b : As) : As := ⟨a.fp ++ b.fp, fun w => a.ok w ∧ b.ok w, fun h hb => ⟨a.keep (fun g hg => h g (List.mem_append_left _ hg)) hb.1, b.keep (fun g hg => h g (List.mem_append_right _ hg)) hb.2⟩⟩
section
variable {w0 w w' : World} {S : Nat → Prop} {Ls : List As} {g b : Nat} {L L' : List (List UInt8 × Value)} {k : List UInt8} {rows : List UInt8 → List (List UInt8)} {F : List Nat} {st : Option (List UInt8 × Nat)}
theorem nT (w : World) : MpB (w.alloc (.map #[] 0)) w.heap.size [] := ⟨#[], 0, by show (w.heap.push (.map #[] 0))[w.heap.size]? = _; simp, rfl, by simp, by simp⟩
theorem Q2 {P : Program} {Q : Exit → Act → World → Prop} {n : Nat} {e : Env} {ops : Array Oper} {o : Oper} {rest : List Oper} (M : Mem w0 S Ls w) {d t : Nat} (hw : Wn ops e o) (hd : o.dst = some d) (hn : Nat.blt d n = true) (ho : o.op = .makeMap t none)
 (k : ∀ g w', w.heap.size ≤ g → Mem w0 S (As.mpS g [] none :: Ls) w' → SxL P ops Q n rest ((d, .map (some g)) :: e) w') : SxL P ops Q n (o :: rest) e w := by
 refine CI (some d) hw hd hn (fun ρ hρ => WX ho) ?_
 rintro _ w1 ⟨rfl, rfl⟩
 exact k _ _ (Nat.le_refl _) (M.push (Fr.refl.alloc _) _ (nT w) (fun g' hg' => by simp only [As.mpS, List.mem_singleton] at hg'; subst hg'; simp))
theorem Mem.mpS (M : Mem w0 S Ls w) (i : Nat) (hi : Ls[i]? = some (As.mpS g L st)) : MpS w g L st := M.ok i _ hi
theorem Mem.rowS (M : Mem w0 S Ls w) (i : Nat) (hi : Ls[i]? = some (As.rowS g L st rows F)) : RowS w g L st rows F := M.ok i _ hi
theorem Mem.toRow (M : Mem w0 S Ls w) (i : Nat) (hi : Ls[i]? = some (As.mpS g [] none)) : Mem w0 S (Ls.set i (As.rowS g [] none (fun _ => []) [])) w :=
 M.upd i hi Fr.refl _ (show RowS w g [] none (fun _ => []) [] from ⟨M.ok i _ hi, by simp, fun k => ⟨none, 0, by simp [EB, CE], Rd.nil, fun b off p h => by cases h⟩⟩) (fun _ hg' => .inl hg')
theorem Mem.entA (M : Mem w0 S Ls w) (i : Nat) (hi : Ls[i]? = some (As.mpS g L none)) (hf : Fr (fun x => x = g) w w') (hE : EntAt w' g L' k b) : Mem w0 S (Ls.set i (As.mpS g L' (some (k, b)))) w' :=
 M.upd i hi (hf.mono fun k _ e => by simp only [As.mpS, List.mem_singleton]; exact e) (As.mpS g L' (some (k, b))) hE (fun _ hg' => .inl hg')
theorem Mem.putA (M : Mem w0 S Ls w) (i : Nat) (hi : Ls[i]? = some (As.mpS g L (some (k, b)))) (hf : Fr (fun x => x = g) w w') (hE : MpB w' g L') : Mem w0 S (Ls.set i (As.mpS g L' none)) w' :=
 M.upd i hi (hf.mono fun k _ e => by simp only [As.mpS, List.mem_singleton]; exact e) (As.mpS g L' none) hE (fun _ hg' => .inl hg')
theorem Mem.entR (M : Mem w0 S Ls w) (i : Nat) (hi : Ls[i]? = some (As.rowS g L none rows F)) (hf : Fr (fun x => x = g) w w') (hE : EntAt w' g (CV L k ((CE L k).getD (.slice none 0 0))) k b) : Mem w0 S (Ls.set i (As.rowS g (CV L k ((CE L k).getD (.slice none 0 0))) (some (k, b)) rows F)) w' := by
 have h : RowS w g L none rows F := M.ok i _ hi
 refine M.upd i hi (hf.mono fun k _ e => by rw [e]; exact List.mem_cons_self) _ (show RowS w' g _ (some (k, b)) rows F from ⟨hE, h.gF, fun k' => ?_⟩) (fun _ hg' => .inl hg')
 obtain ⟨A, C, h1, h2, h3⟩ := h.row k'
 refine ⟨A, C, ?_, GS h2 (fun x hx hl => hf.block x hl (fun e => h.gF (e ▸ hx))) h3, h3⟩
 rw [IA]
 by_cases hk : k' = k
 ·subst hk; rw [if_pos rfl]; exact h1
 ·rw [if_neg hk]; exact h1
theorem Mem.putR {base T n C : Nat} {A : Option Addr} {l : List (List UInt8)} (M : Mem w0 S (As.own base T 1 (.slice A n C) n (AR C4 l) :: As.rowS g L (some (k, b)) rows F :: Ls) w) (hf : Fr (fun x => x = g) w w') (hE : MpB w' g (CV L k (.slice A n C))) (hn : n = l.length) :
 ∃ F', Mem w0 S (As.rowS g (CV L k (.slice A n C)) none (fun k' => if k' = k then l else rows k') F' :: Ls) w' := by
 have ho := M.own 0 rfl
 have h : RowS w g L (some (k, b)) rows F := M.ok 1 _ rfl
 have hap : ∀ x ∈ (Value.slice A n C).ownBlock.toList, ¬ x ∈ g :: F := fun x hx => M.apart 0 1 _ _ rfl rfl (by decide) x hx
 have M1 := M.joinFam (As.both (As.own base T 1 (.slice A n C) n (AR C4 l)) (As.rowS g L (some (k, b)) rows F)) ⟨ho, h⟩ (fun x hx => List.mem_append.1 hx)
 have hA : ∀ b off p, A = some ⟨b, off, p⟩ → b ∈ (Value.slice A n C).ownBlock.toList := fun b off p e => by subst e; simp [Value.ownBlock]
 refine ⟨(Value.slice A n C).ownBlock.toList ++ F, M1.upd 0 rfl (hf.mono fun x _ e => by rw [e]; exact List.mem_append_right _ List.mem_cons_self) _ (show RowS w' g _ none _ _ from ⟨hE, ?_, fun k' => ?_⟩) ?_⟩
 ·intro hh
  rcases List.mem_append.1 hh with hh | hh
  ·exact hap g hh List.mem_cons_self
  ·exact h.gF hh
 ·rw [IA]
  by_cases hk : k' = k
  ·subst hk
   simp only [if_pos]
   rw [hn] at ho hA ⊢
   refine ⟨A, C, rfl, GS (NE ho) (F := (Value.slice A l.length C).ownBlock.toList) (fun x hx hl => hf.block x hl (fun e => hap x (hn ▸ hx) (by rw [e]; exact List.mem_cons_self))) hA, fun b off p e => List.mem_append_left _ (hA b off p e)⟩
  ·simp only [if_neg hk]
   obtain ⟨A', C', h1, h2, h3⟩ := h.row k'
   exact ⟨A', C', h1, GS h2 (fun x hx hl => hf.block x hl (fun e => h.gF (e ▸ hx))) h3, fun b off p e => List.mem_append_right _ (h3 b off p e)⟩
 ·intro x hx
  left
  rcases List.mem_cons.1 (show x ∈ g :: ((Value.slice A n C).ownBlock.toList ++ F) from hx) with rfl | hx
  ·exact List.mem_append_right _ List.mem_cons_self
  ·rcases List.mem_append.1 hx with hx | hx
   ·exact List.mem_append_left _ hx
   ·exact List.mem_append_right _ (List.mem_cons_of_mem _ hx)
theorem Mem.mdN {m : Md} {a : MdA} (M : Mem w0 S Ls w) (i : Nat) (hi : Ls[i]? = some (As.mdp m a F)) : MdN w m a F := M.ok i _ hi
end
end Go.Proofs.YtadgfojhjnkliaaGreatDoor
