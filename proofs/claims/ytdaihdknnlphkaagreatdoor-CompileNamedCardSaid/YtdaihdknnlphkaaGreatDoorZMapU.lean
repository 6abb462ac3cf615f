/- Lemmas that the last text rests on. Condition: each says its own. -/
import Derived.Test.YtdaihdknnlphkaaGreatDoorZb5
set_option maxHeartbeats 16000000
set_option maxRecDepth 100000
namespace Go.Proofs.YtdaihdknnlphkaaGreatDoor
open Go.RowKit
def ku (k : UInt8) : Value := .int .u8 (k.toNat : Int)
def LD : List (UInt8 × Value) → UInt8 → Option Value
 | [], _ => none
 | (k', v) :: r, k => if k = k' then some v else LD r k
def LC : List (UInt8 × Value) → UInt8 → Value → List (UInt8 × Value)
 | [], k, v => [(k, v)]
 | (k', v') :: r, k, v => if k = k' then (k, v) :: r else (k', v') :: LC r k v
def MpU (w : World) (g : Nat) (L : List (UInt8 × Value)) : Prop := ∃ (es : Array MapEntry) (clock : Nat), w.heap[g]? = some (.map es clock) ∧ es.toList.map (fun e => (e.key, e.val)) = L.map fun p => (ku p.1, p.2)
theorem gT (a b : UInt8) : Instr.sameNow (.int .u8) (ku a) (ku b) = some (decide (a = b)) := by
 unfold ku
 simp only [Instr.sameNow, if_true]
 congr 1
 by_cases h : a = b
 ·subst h; simp
 ·rw [decide_eq_false h]
  simp only [beq_eq_false_iff_ne, ne_eq, Int.natCast_inj]
  exact fun hh => h (UInt8.toNat_inj.1 hh)
section
variable {P : Program} {e : Env} {w : World} {o : Oper}
theorem PB (k : UInt8) : ∀ (L : List (UInt8 × Value)) (es : List MapEntry) (i : Nat), es.map (fun e => (e.key, e.val)) = L.map (fun p => (ku p.1, p.2)) →
 (LD L k = none ∧ Instr.findNow (.int .u8) (ku k) es i = some none ∧ LC L k = fun v => L ++ [(k, v)]) ∨
 ∃ j v, LD L k = some v ∧ Instr.findNow (.int .u8) (ku k) es i = some (some (i + j, v)) ∧ j < L.length ∧ (L[j]?).map (·.1) = some k ∧ LC L k = fun v => L.set j (k, v)
 | [], es, i, h => by
  obtain rfl : es = [] := by simpa using h
  exact .inl ⟨rfl, rfl, by funext v; rfl⟩
 | (k', v') :: L, [], i, h => by simp at h
 | (k', v') :: L, en :: es, i, h => by
  simp only [List.map_cons, List.cons.injEq, Prod.mk.injEq] at h
  obtain ⟨⟨h1, h2⟩, h3⟩ := h
  have hc : Instr.findNow (.int .u8) (ku k) (en :: es) i = match Instr.sameNow (.int .u8) (ku k) en.key with | some true => some (some (i, en.val)) | some false => Instr.findNow (.int .u8) (ku k) es (i + 1) | none => none := rfl
  rw [h1, gT] at hc
  by_cases hk : k = k'
  ·subst hk
   right
   refine ⟨0, v', by simp [LD], ?_, by simp, by simp, by funext v; simp [LC]⟩
   rw [hc]; simp [h2]
  ·rcases PB k L es (i + 1) h3 with ⟨a1, a2, a3⟩ | ⟨j, v, a1, a2, a3, a4, a5⟩
   ·left
    refine ⟨by simp [LD, hk, a1], ?_, by funext v; simp [LC, hk, a3]⟩
    rw [hc]; simp [hk, a2]
   ·right
    refine ⟨j + 1, v, by simp [LD, hk, a1], ?_, by simp; omega, by simpa using a4, by funext v; simp [LC, hk, a5]⟩
    rw [hc]; simp [hk, a2]; omega
theorem I3 {kt : TypeId} {k : UInt8} {es : List MapEntry} {r : Option (Nat × Value)} (hd : P.underlying kt = some (.int .u8)) (hf : Instr.findNow (.int .u8) (ku k) es 0 = some r) (w : World) : (Instr.findKey kt (ku k) es).run P w = .ok r w := by
 unfold Instr.findKey
 simp [run_underlying hd, hf]
theorem JE {kt : TypeId} (hd : P.underlying kt = some (.int .u8)) (k : UInt8) (b : Bool) (w : World) : (Instr.checkKey b 10000 kt (ku k)).run P w = .ok () w := by
 show (Instr.checkKey b (9999 + 1) kt _).run P w = _
 unfold Instr.checkKey
 simp [run_underlying hd]
theorem sB (w : World) : MpU (w.alloc (.map #[] 0)) w.heap.size [] := ⟨#[], 0, by show (w.heap.push (.map #[] 0))[w.heap.size]? = _; simp, rfl⟩
theorem bS {ρ : Operand → Value} {t : TypeId} (ho : o.op = .makeMap t none) : FU P ρ o w fun v w' => ∃ g, v = .map (some g) ∧ w.heap.size ≤ g ∧ g < w'.heap.size ∧ MpU w' g [] ∧ Fr0 w w' :=
 (Z8 ho).mono fun v w' ⟨h1, h2⟩ => by
  subst h2
  exact ⟨w.heap.size, h1, Nat.le_refl _, by simp, sB w, Fr.refl.alloc _⟩
theorem fQ {t kt el : TypeId} {x i : Operand} {ok : Bool} {g : Nat} {k : UInt8} {L : List (UInt8 × Value)} {z : Value} (ho : o.op = .lookup t x i ok) (hx : ev e x = some (.map (some g))) (hi : ev e i = some (ku k)) (hu : P.underlying t = some (.map kt el)) (hd : P.underlying kt = some (.int .u8))
 (hz : (P.info? el).map (·.zero) = some (some z)) (hM : MpU w g L) : Y P e o w (if ok then .tuple #[(LD L k).getD z, .bool (LD L k).isSome] else (LD L k).getD z) := fun ρ h => by
 obtain ⟨es, clock, hb, hes⟩ := hM
 obtain ⟨inf, hinf, hinz⟩ := Option.map_eq_some_iff.1 hz
 have h1 : ρ x = .map (some g) := h _ _ hx
 have h2 : ρ i = ku k := h _ _ hi
 unfold execOp
 simp only [ho, h1, h2]
 unfold Instr.lookup
 simp only [Sem.run_bind, run_underlying hu, Result.andThen_ok, Sem.run_pure, IA hb, JE hd]
 rcases PB k L es.toList 0 hes with ⟨a1, a2, _⟩ | ⟨j, v, a1, a2, _, _, _⟩
 ·simp only [I3 hd a2, a1]
  cases ok <;> simp [zeroValue, typeInfo, hinf, hinz]
 ·simp only [I3 hd a2, a1]
  cases ok <;> simp
theorem WT {ρ : Operand → Value} {t kt el : TypeId} {mp i x : Operand} {g : Nat} {k : UInt8} {v : Value} {L : List (UInt8 × Value)} (ho : o.op = .mapUpdate t mp i x ∨ o.op = .insert t mp i x) (hm : ρ mp = .map (some g)) (hi : ρ i = ku k) (hx : ρ x = v) (hu : P.underlying t = some (.map kt el)) (hd : P.underlying kt = some (.int .u8))
 (hM : MpU w g L) : FU P ρ o w fun u w' => u = undef ∧ Fr (fun b => b = g) w w' ∧ MpU w' g (LC L k v) := by
 obtain ⟨es, clock, hb, hes⟩ := hM
 have hlt : g < w.heap.size := (Array.getElem?_eq_some_iff.1 hb).1
 have fin : ∀ (es' : Array MapEntry) (clock' : Nat), (Instr.mapUpdate t (.map (some g)) (ku k) v).run P w = .ok () { w with heap := w.heap.setIfInBounds g (.map es' clock') } → es'.toList.map (fun e => (e.key, e.val)) = (LC L k v).map (fun p => (ku p.1, p.2)) →
  FU P ρ o w fun u w' => u = undef ∧ Fr (fun b => b = g) w w' ∧ MpU w' g (LC L k v) := fun es' clock' hrun hes' => by
  refine ⟨undef, { w with heap := w.heap.setIfInBounds g (.map es' clock') }, .inr ⟨?_, rfl⟩, rfl, ⟨rfl, rfl, rfl, by simp, fun r _ hn => by simp [Array.getElem?_setIfInBounds_ne (Ne.symm hn)]⟩, es', clock', by simp [hlt], hes'⟩
  rcases ho with ho | ho <;> (unfold execOp; simp only [ho, hm, hi, hx, Sem.run_bind, hrun, Result.andThen_ok]; rfl)
 have hbits : Instr.sameBits 10000 (ku k) (ku k) = true := by
  unfold ku
  simp [Instr.sameBits]
 rcases PB k L es.toList 0 hes with ⟨a1, a2, a3⟩ | ⟨j, v0, a1, a2, a3, a4, a5⟩
 ·refine fin (es.push { key := ku k, val := v, born := clock }) (clock + 1) ?_ (by rw [a3]; simp [hes])
  unfold Instr.mapUpdate
  simp only [Sem.run_bind, run_underlying hu, Result.andThen_ok, IA hb, JE hd, I3 hd a2]
  unfold setObj
  simp only [Sem.run, hb]
 ·rw [Nat.zero_add] at a2
  have hlen : es.toList.length = L.length := by have := congrArg List.length hes; simpa using this
  obtain ⟨en, hen⟩ : ∃ en, es[j]? = some en := ⟨_, Array.getElem?_eq_getElem (by simp at hlen; omega)⟩
  have hkey : en.key = ku k := by
   have h1 := congrArg (·[j]?) hes
   simp only [List.getElem?_map] at h1
   have h2 : es.toList[j]? = some en := by simpa using hen
   rw [h2] at h1
   cases hL : L[j]? with
   | none => rw [hL] at h1; cases h1
   | some p =>
    rw [hL] at h1 a4
    simp only [Option.map_some, Option.some.injEq, Prod.mk.injEq] at h1 a4
    rw [h1.1, a4]
  refine fin (es.modify j fun e => { e with key := ku k, val := v }) clock ?_ ?_
  ·have hold : ((es[j]?).map (·.key)).getD (ku k) = ku k := by rw [hen]; exact hkey
   unfold Instr.mapUpdate
   simp only [Sem.run_bind, run_underlying hu, Result.andThen_ok, IA hb, JE hd, I3 hd a2, hold, Instr.keyThatStays, hbits, if_true, Sem.run_pure]
   unfold setObj
   simp only [Sem.run, hb]
  ·rw [a5]
   apply List.ext_getElem?
   intro i
   have h1 := congrArg (·[i]?) hes
   simp only [List.getElem?_map] at h1
   rw [Array.toList_modify, List.getElem?_map, List.getElem?_modify, List.getElem?_map, List.getElem?_set]
   by_cases hij : j = i
   ·subst hij
    simp [hen, a3]
   ·simp [hij]
    simpa using h1
theorem WU {ρ : Operand → Value} {t kt el : TypeId} {mp i x : Operand} {g : Nat} {k : UInt8} {v : Value} {L : List (UInt8 × Value)} (ho : o.op = .insert t mp i x) (hm : ρ mp = .map (some g)) (hi : ρ i = ku k) (hx : ρ x = v) (hu : P.underlying t = some (.map kt el)) (hd : P.underlying kt = some (.int .u8))
 (hM : MpU w g L) : FU P ρ o w fun u w' => u = undef ∧ Fr (fun b => b = g) w w' ∧ MpU w' g (LC L k v) := WT (.inr ho) hm hi hx hu hd hM
end
end Go.Proofs.YtdaihdknnlphkaaGreatDoor
