/- Maps whose keys are texts, by the environment. Over any program. No condition. -/
import Derived.Test.YtklciidffdnglaaDoorStrOps
namespace Go.Proofs.YtklciidffdnglaaDoor
open Go.RowKit

def mget : List (List UInt8 × Value) → List UInt8 → Option Value
  | [], _ => none
  | (k', v) :: r, k => if k = k' then some v else mget r k
def mput : List (List UInt8 × Value) → List UInt8 → Value → List (List UInt8 × Value)
  | [], k, v => [(k, v)]
  | (k', v') :: r, k, v => if k = k' then (k, v) :: r else (k', v') :: mput r k v
theorem mget_mput (k k' : List UInt8) (v : Value) : ∀ L, mget (mput L k v) k' = if k' = k then some v else mget L k'
  | [] => by simp [mput, mget]
  | (k1, v1) :: r => by
    unfold mput
    by_cases h : k = k1
    · subst h; rw [if_pos rfl]; unfold mget; by_cases h2 : k' = k <;> simp [h2]
    · rw [if_neg h]; unfold mget
      by_cases h2 : k' = k1
      · subst h2; rw [if_pos rfl, if_pos rfl, if_neg (fun e => h e.symm)]
      · rw [if_neg h2, if_neg h2]; exact mget_mput k k' v r
/-- The block is a map with these entries. -/
def Mp (w : World) (g : Nat) (L : List (List UInt8 × Value)) : Prop := ∃ (es : Array MapEntry) (clock : Nat), w.heap[g]? = some (.map es clock) ∧ es.toList.map (fun e => (e.key, e.val)) = L.map fun p => (str p.1, p.2)
theorem Mp.lt {w : World} {g : Nat} {L : List (List UInt8 × Value)} (h : Mp w g L) : g < w.heap.size := by
  obtain ⟨es, cl, h, _⟩ := h; exact (Array.getElem?_eq_some_iff.1 h).1
theorem Mp.fr {S : Nat → Prop} {w w' : World} {g : Nat} {L : List (List UInt8 × Value)} (h : Mp w g L) (hf : Fr S w w') (hn : ¬ S g) : Mp w' g L := by
  obtain ⟨es, cl, h1, h2⟩ := h
  exact ⟨es, cl, (hf.block g (Array.getElem?_eq_some_iff.1 h1).1 hn).trans h1, h2⟩
theorem str_inj {a b : List UInt8} (h : str a = str b) : a = b := by unfold str at h; injection h with h; injection h with h; injection h
theorem str_beq (a b : List UInt8) : ((⟨a.toArray⟩ : ByteArray) == ⟨b.toArray⟩) = decide (a = b) := by
  have h1 : ((⟨a.toArray⟩ : ByteArray) == ⟨b.toArray⟩) = (a.toArray == b.toArray) := rfl
  rw [h1]; by_cases h : a = b <;> simp [h]
theorem same_str (a b : List UInt8) : Instr.sameNow .string (str a) (str b) = some (decide (a = b)) := by
  unfold str
  simp only [Instr.sameNow, str_beq]
section
variable {P : Program} {e : Env} {w : World} {o : Oper}
theorem find_str (k : List UInt8) : ∀ (L : List (List UInt8 × Value)) (es : List MapEntry) (i : Nat), es.map (fun e => (e.key, e.val)) = L.map (fun p => (str p.1, p.2)) →
    (mget L k = none ∧ Instr.findNow .string (str k) es i = some none ∧ mput L k = fun v => L ++ [(k, v)]) ∨
    ∃ j v, mget L k = some v ∧ Instr.findNow .string (str k) es i = some (some (i + j, v)) ∧ j < L.length ∧ (L[j]?).map (·.1) = some k ∧ mput L k = fun v => L.set j (k, v)
  | [], es, i, h => by
    obtain rfl : es = [] := by simpa using h
    exact .inl ⟨rfl, rfl, by funext v; rfl⟩
  | (k', v') :: L, [], i, h => by simp at h
  | (k', v') :: L, en :: es, i, h => by
    simp only [List.map_cons, List.cons.injEq, Prod.mk.injEq] at h
    obtain ⟨⟨h1, h2⟩, h3⟩ := h
    have hc : Instr.findNow .string (str k) (en :: es) i = match Instr.sameNow .string (str k) en.key with | some true => some (some (i, en.val)) | some false => Instr.findNow .string (str k) es (i + 1) | none => none := rfl
    rw [h1, same_str] at hc
    by_cases hk : k = k'
    · subst hk
      right
      refine ⟨0, v', by simp [mget], ?_, by simp, by simp, by funext v; simp [mput]⟩
      rw [hc]; simp [h2]
    · rcases find_str k L es (i + 1) h3 with ⟨a1, a2, a3⟩ | ⟨j, v, a1, a2, a3, a4, a5⟩
      · left
        refine ⟨by simp [mget, hk, a1], ?_, by funext v; simp [mput, hk, a3]⟩
        rw [hc]; simp [hk, a2]
      · right
        refine ⟨j + 1, v, by simp [mget, hk, a1], ?_, by simp; omega, by simpa using a4, by funext v; simp [mput, hk, a5]⟩
        rw [hc]; simp [hk, a2]; omega
theorem run_findStr {kt : TypeId} {k : List UInt8} {es : List MapEntry} {r : Option (Nat × Value)} (hd : P.underlying kt = some .string) (hf : Instr.findNow .string (str k) es 0 = some r) (w : World) : (Instr.findKey kt (str k) es).run P w = .ok r w := by
  unfold Instr.findKey
  simp [run_underlying hd, hf]
theorem run_checkStr {kt : TypeId} (hd : P.underlying kt = some .string) (k : List UInt8) (b : Bool) (w : World) : (Instr.checkKey b 10000 kt (str k)).run P w = .ok () w := by
  show (Instr.checkKey b (9999 + 1) kt _).run P w = _
  unfold Instr.checkKey
  simp [run_underlying hd]
theorem run_getMp {g clock : Nat} {es : Array MapEntry} (hb : w.heap[g]? = some (.map es clock)) : (Go.getObj g).run P w = .ok (.map es clock) w := by
  unfold Go.getObj
  simp only [Sem.run, hb]
theorem does_map {ρ : Operand → Value} {t : TypeId} (ho : o.op = .makeMap t none) : Does P ρ o w fun v w' => v = .map (some w.heap.size) ∧ w' = w.alloc (.map #[] 0) := by
  refine ⟨_, _, .inl ?_, rfl, rfl⟩
  unfold execOp
  simp [ho, Instr.makeMap]
theorem mp_new (w : World) : Mp (w.alloc (.map #[] 0)) w.heap.size [] := ⟨#[], 0, by show (w.heap.push (.map #[] 0))[w.heap.size]? = _; simp, rfl⟩
theorem does_mapE {ρ : Operand → Value} {t : TypeId} (ho : o.op = .makeMap t none) : Does P ρ o w fun v w' => ∃ g, v = .map (some g) ∧ w.heap.size ≤ g ∧ g < w'.heap.size ∧ Mp w' g [] ∧ Fr0 w w' :=
  (does_map ho).mono fun v w' ⟨h1, h2⟩ => by
    subst h2
    exact ⟨w.heap.size, h1, Nat.le_refl _, by simp, mp_new w, Fr.refl.alloc _⟩
theorem y_lookup {t kt el : TypeId} {x i : Operand} {ok : Bool} {g : Nat} {k : List UInt8} {L : List (List UInt8 × Value)} {z : Value} (ho : o.op = .lookup t x i ok) (hx : ev e x = some (.map (some g))) (hi : ev e i = some (str k)) (hu : P.underlying t = some (.map kt el)) (hd : P.underlying kt = some .string)
    (hz : (P.info? el).map (·.zero) = some (some z)) (hM : Mp w g L) : Y P e o w (if ok then .tuple #[(mget L k).getD z, .bool (mget L k).isSome] else (mget L k).getD z) := fun ρ h => by
  obtain ⟨es, clock, hb, hes⟩ := hM
  obtain ⟨inf, hinf, hinz⟩ := Option.map_eq_some_iff.1 hz
  have h1 : ρ x = .map (some g) := h _ _ hx
  have h2 : ρ i = str k := h _ _ hi
  unfold execOp
  simp only [ho, h1, h2]
  unfold Instr.lookup
  simp only [Sem.run_bind, run_underlying hu, Result.andThen_ok, Sem.run_pure, run_getMp hb, run_checkStr hd]
  rcases find_str k L es.toList 0 hes with ⟨a1, a2, _⟩ | ⟨j, v, a1, a2, _, _, _⟩
  · simp only [run_findStr hd a2, a1]
    cases ok <;> simp [zeroValue, typeInfo, hinf, hinz]
  · simp only [run_findStr hd a2, a1]
    cases ok <;> simp
theorem does_mapUpdate {ρ : Operand → Value} {t kt el : TypeId} {mp i x : Operand} {g : Nat} {k : List UInt8} {v : Value} {L : List (List UInt8 × Value)} (ho : o.op = .mapUpdate t mp i x) (hm : ρ mp = .map (some g)) (hi : ρ i = str k) (hx : ρ x = v) (hu : P.underlying t = some (.map kt el)) (hd : P.underlying kt = some .string)
    (hM : Mp w g L) : Does P ρ o w fun u w' => u = undef ∧ Fr (fun b => b = g) w w' ∧ Mp w' g (mput L k v) := by
  obtain ⟨es, clock, hb, hes⟩ := hM
  have hlt : g < w.heap.size := (Array.getElem?_eq_some_iff.1 hb).1
  have fin : ∀ (es' : Array MapEntry) (clock' : Nat), (Instr.mapUpdate t (.map (some g)) (str k) v).run P w = .ok () { w with heap := w.heap.setIfInBounds g (.map es' clock') } → es'.toList.map (fun e => (e.key, e.val)) = (mput L k v).map (fun p => (str p.1, p.2)) →
      Does P ρ o w fun u w' => u = undef ∧ Fr (fun b => b = g) w w' ∧ Mp w' g (mput L k v) := fun es' clock' hrun hes' => by
    refine ⟨undef, { w with heap := w.heap.setIfInBounds g (.map es' clock') }, .inr ⟨?_, rfl⟩, rfl, ⟨rfl, rfl, rfl, by simp, fun r _ hn => by simp [Array.getElem?_setIfInBounds_ne (Ne.symm hn)]⟩, es', clock', by simp [hlt], hes'⟩
    unfold execOp
    simp only [ho, hm, hi, hx, Sem.run_bind, hrun, Result.andThen_ok]; rfl
  have hbits : Instr.sameBits 10000 (str k) (str k) = true := by
    unfold str
    simp [Instr.sameBits, str_beq]
  rcases find_str k L es.toList 0 hes with ⟨a1, a2, a3⟩ | ⟨j, v0, a1, a2, a3, a4, a5⟩
  · refine fin (es.push { key := str k, val := v, born := clock }) (clock + 1) ?_ (by rw [a3]; simp [hes])
    unfold Instr.mapUpdate
    simp only [Sem.run_bind, run_underlying hu, Result.andThen_ok, run_getMp hb, run_checkStr hd, run_findStr hd a2]
    unfold setObj
    simp only [Sem.run, hb]
  · rw [Nat.zero_add] at a2
    have hlen : es.toList.length = L.length := by have := congrArg List.length hes; simpa using this
    obtain ⟨en, hen⟩ : ∃ en, es[j]? = some en := ⟨_, Array.getElem?_eq_getElem (by simp at hlen; omega)⟩
    have hkey : en.key = str k := by
      have h1 := congrArg (·[j]?) hes
      simp only [List.getElem?_map] at h1
      have h2 : es.toList[j]? = some en := by simpa using hen
      rw [h2] at h1
      cases hL : L[j]? with
      | none => rw [hL] at h1; cases h1
      | some p =>
        rw [hL] at h1 a4
        simp only [Option.map_some, Option.some.injEq, Prod.mk.injEq] at h1 a4
        rw [h1.1, a4]
    refine fin (es.modify j fun e => { e with key := str k, val := v }) clock ?_ ?_
    · have hold : ((es[j]?).map (·.key)).getD (str k) = str k := by rw [hen]; exact hkey
      unfold Instr.mapUpdate
      simp only [Sem.run_bind, run_underlying hu, Result.andThen_ok, run_getMp hb, run_checkStr hd, run_findStr hd a2, hold, Instr.keyThatStays, hbits, if_true, Sem.run_pure]
      unfold setObj
      simp only [Sem.run, hb]
    · rw [a5]
      apply List.ext_getElem?
      intro i
      have h1 := congrArg (·[i]?) hes
      simp only [List.getElem?_map] at h1
      rw [Array.toList_modify, List.getElem?_map, List.getElem?_modify, List.getElem?_map, List.getElem?_set]
      by_cases hij : j = i
      · subst hij
        simp [hen, a3]
      · simp [hij]
        simpa using h1
end
end Go.Proofs.YtklciidffdnglaaDoor
