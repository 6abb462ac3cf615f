/- Lemmas that the last text rests on. Condition: each says its own. -/
import Derived.Test.YtjaocmocdhckaaaGreatDoorZRu9
set_option maxHeartbeats 16000000
set_option maxRecDepth 100000
namespace Go.Proofs.YtjaocmocdhckaaaGreatDoor
open Go.RowKit
theorem Mi.keep {w w' : World} {g : Nat} {f : Int → Option Value} (h : Mi w g f) (hk : g < w.heap.size → w'.heap[g]? = w.heap[g]?) : Mi w' g f := by
 obtain ⟨es, cl, h1, h2⟩ := h
 exact ⟨es, cl, (hk (Array.getElem?_eq_some_iff.1 h1).1).trans h1, h2⟩
def As.mi (g : Nat) (f : Int → Option Value) : As := ⟨[g], fun w => Mi w g f, fun h hb => hb.keep (h g (by simp))⟩
section
variable {P : Program} {Q : Exit → Act → World → Prop} {n : Nat} {e : Env} {w w0 : World} {S : Nat → Prop} {L : List As} {ops : Array Oper} {o : Oper} {rest : List Oper}
theorem bJ (M : Mem w0 S L w) {d t : Nat} (hw : Wn ops e o) (hd : o.dst = some d) (hn : Nat.blt d n = true) (ho : o.op = .makeMap t none)
 (k : ∀ g w', w.heap.size ≤ g → Mem w0 S (As.mi g (fun _ => none) :: L) w' → SxL P ops Q n rest ((d, .map (some g)) :: e) w') : SxL P ops Q n (o :: rest) e w := by
 refine CH (some d) hw hd hn (fun ρ hρ => dD ho) ?_
 rintro _ w1 ⟨g, rfl, h1, h2, hb, hf⟩
 exact k g w1 h1 (M.push hf _ hb (fun g' hg' => by simp only [As.mi, List.mem_singleton] at hg'; subst hg'; exact ⟨h1, h2⟩))
theorem fF (M : Mem w0 S L w) (i : Nat) (hw : Wn ops e o) (hd : o.dst = none) {t kt el g : Nat} {q : IntKind} {mp ix x : Operand} {k : Int} {v : Value} {f : Int → Option Value} (ho : o.op = .mapUpdate t mp ix x) (hm : ev e mp = some (.map (some g))) (hx : ev e ix = some (AJ k)) (hv : ev e x = some v) (hu : P.underlying t = some (.map kt el)) (hk : P.underlying kt = some (.int q))
 (hi : L[i]? = some (As.mi g f)) (c : ∀ w', Mem w0 S (L.set i (As.mi g (upd f k v))) w' → SxL P ops Q n rest e w') : SxL P ops Q n (o :: rest) e w := by
 refine CH none hw hd rfl (fun ρ hρ => dC ho (hρ _ _ hm) (hρ _ _ hx) (hρ _ _ hv) hu hk (M.ok i _ hi : Mi w g f)) ?_
 rintro _ w1 ⟨rfl, hf, hb⟩
 exact c w1 (M.upd i hi (hf.mono fun k _ e => by simp only [As.mi, List.mem_singleton]; exact e) (As.mi g _) hb (fun g' hg' => .inl hg'))
end
theorem dY {P : Program} {w : World} {o : Oper} {e : Env} {t kt el : TypeId} {q : IntKind} {x i : Operand} {g : Nat} {k : Int} {f : Int → Option Value} {z v : Value} (ho : o.op = .lookup t x i false) (hx : ev e x = some (.map (some g))) (hi : ev e i = some (AJ k)) (hu : P.underlying t = some (.map kt el)) (hd : P.underlying kt = some (.int q)) (hz : (P.info? el).map (·.zero) = some (some z)) (hM : Mi w g f) (hv : (f k).getD z = v) : Y P e o w v := by
 have := lD (P := P) (ok := false) ho hx hi hu hd hz hM
 rw [← hv]; exact this
end Go.Proofs.YtjaocmocdhckaaaGreatDoor
