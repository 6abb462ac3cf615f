/- Lemmas that the last text rests on. Condition: each says its own. -/
import Derived.Test.YtjaocmocdhckaaaGreatDoorZRu9
set_option maxHeartbeats 16000000
set_option maxRecDepth 100000
namespace Go.Proofs.YtjaocmocdhckaaaGreatDoor
open Go.RowKit
theorem MpU.keep {w w' : World} {g : Nat} {L : List (UInt8 × Value)} (h : MpU w g L) (hk : g < w.heap.size → w'.heap[g]? = w.heap[g]?) : MpU w' g L := by
 obtain ⟨es, cl, h1, h2⟩ := h
 exact ⟨es, cl, (hk (Array.getElem?_eq_some_iff.1 h1).1).trans h1, h2⟩
def As.mpU (g : Nat) (L : List (UInt8 × Value)) : As := ⟨[g], fun w => MpU w g L, fun h hb => hb.keep (h g (by simp))⟩
section
variable {P : Program} {Q : Exit → Act → World → Prop} {n : Nat} {e : Env} {w w0 : World} {S : Nat → Prop} {L : List As} {ops : Array Oper} {o : Oper} {rest : List Oper}
theorem VZ (M : Mem w0 S L w) {d t : Nat} (hw : Wn ops e o) (hd : o.dst = some d) (hn : Nat.blt d n = true) (ho : o.op = .makeMap t none)
 (k : ∀ g w', w.heap.size ≤ g → Mem w0 S (As.mpU g [] :: L) w' → SxL P ops Q n rest ((d, .map (some g)) :: e) w') : SxL P ops Q n (o :: rest) e w := by
 refine CH (some d) hw hd hn (fun ρ hρ => YO ho) ?_
 rintro _ w1 ⟨g, rfl, h1, h2, hb, hf⟩
 exact k g w1 h1 (M.push hf _ hb (fun g' hg' => by simp only [As.mpU, List.mem_singleton] at hg'; subst hg'; exact ⟨h1, h2⟩))
theorem EE (M : Mem w0 S L w) (i : Nat) (hw : Wn ops e o) (hd : o.dst = none) {t kt el g : Nat} {mp ix x : Operand} {k : UInt8} {v : Value} {K : List (UInt8 × Value)} (ho : o.op = .insert t mp ix x) (hm : ev e mp = some (.map (some g))) (hx : ev e ix = some (ku k)) (hv : ev e x = some v) (hu : P.underlying t = some (.map kt el)) (hk : P.underlying kt = some (.int .u8))
 (hi : L[i]? = some (As.mpU g K)) (c : ∀ w', Mem w0 S (L.set i (As.mpU g (M8 K k v))) w' → SxL P ops Q n rest e w') : SxL P ops Q n (o :: rest) e w := by
 refine CH none hw hd rfl (fun ρ hρ => V3 ho (hρ _ _ hm) (hρ _ _ hx) (hρ _ _ hv) hu hk (M.ok i _ hi : MpU w g K)) ?_
 rintro _ w1 ⟨rfl, hf, hb⟩
 exact c w1 (M.upd i hi (hf.mono fun k _ e => by simp only [As.mpU, List.mem_singleton]; exact e) (As.mpU g _) hb (fun g' hg' => .inl hg'))
end
theorem XS {P : Program} {e : Env} {w : World} {o : Oper} {t kt el : TypeId} {x i : Operand} {g : Nat} {k : UInt8} {L : List (UInt8 × Value)} {z : Value} (ho : o.op = .lookup t x i false) (hx : ev e x = some (.map (some g))) (hi : ev e i = some (ku k)) (hu : P.underlying t = some (.map kt el)) (hd : P.underlying kt = some (.int .u8))
 (hz : (P.info? el).map (·.zero) = some (some z)) (hM : MpU w g L) : Y P e o w ((HK L k).getD z) := T6 ho hx hi hu hd hz hM
theorem KN {P : Program} {e : Env} {w : World} {o : Oper} {t kt el : TypeId} {x i : Operand} {g : Nat} {k : UInt8} {L : List (UInt8 × Value)} {z : Value} (ho : o.op = .lookup t x i true) (hx : ev e x = some (.map (some g))) (hi : ev e i = some (ku k)) (hu : P.underlying t = some (.map kt el)) (hd : P.underlying kt = some (.int .u8))
 (hz : (P.info? el).map (·.zero) = some (some z)) (hM : MpU w g L) : Y P e o w (.tuple #[(HK L k).getD z, .bool (HK L k).isSome]) := T6 ho hx hi hu hd hz hM
end Go.Proofs.YtjaocmocdhckaaaGreatDoor
