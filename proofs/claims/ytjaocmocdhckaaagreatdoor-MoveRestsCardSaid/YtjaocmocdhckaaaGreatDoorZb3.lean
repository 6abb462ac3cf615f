/- Lemmas that the last text rests on. Condition: each says its own. -/
import Derived.Test.YtjaocmocdhckaaaGreatDoorZb2
import Derived.Maps.RangeRun
import Derived.Lib.Builder
import Derived.Laws.Externs
import Derived.Shelf.Sort.Plain
import Derived.Shelf.Slices.In.SortNone
import Derived.Shelf.Small.Strs
import Derived.Shelf.Bits.Mul64
import Derived.Shelf.Slices.Reverse
import Derived.Deep.Slices
import Derived.Deep.Strs
import Derived.ProofKit
import Derived.OpenShut
import Derived.Deep.DeepHandedRow
import Derived.Lay
import Derived.Shelf.Unicode.ValidAny
set_option maxHeartbeats 16000000
set_option maxRecDepth 100000
namespace Go.Proofs.YtjaocmocdhckaaaGreatDoor
open Go.RowKit
section
theorem KC (k : List UInt8) (u v : Value) : ∀ L, DN (DN L k u) k v = DN L k v
 | [] => by simp [DN]
 | (k1, v1) :: r => by
  rw [DN, DN]
  by_cases h : k = k1
  ·rw [if_pos h, if_pos h, DN, if_pos rfl]
  ·rw [if_neg h, if_neg h, DN, if_neg h, KC k u v r]
theorem TN {k : List UInt8} {v : Value} : ∀ {L : List (List UInt8 × Value)}, CU L k = some v → DN L k v = L
 | [], h => by cases h
 | (k1, v1) :: r, h => by
  rw [CU] at h
  rw [DN]
  by_cases hk : k = k1
  ·rw [if_pos hk] at h ⊢; injection h with h; rw [hk, h]
  ·rw [if_neg hk] at h ⊢; rw [TN h]
def VE (es : List MapEntry) (cl : Nat) : Prop := (∀ en ∈ es, en.born < cl) ∧ ∀ (i j : Nat) (a b : MapEntry), es[i]? = some a → es[j]? = some b → a.born = b.born → i = j
def MpB (w : World) (g : Nat) (L : List (List UInt8 × Value)) : Prop := ∃ (es : Array MapEntry) (clock : Nat), w.heap[g]? = some (.map es clock) ∧ es.toList.map (fun e => (e.key, e.val)) = L.map (fun p => (str p.1, p.2)) ∧ VE es.toList clock
theorem MpB.mp {w : World} {g : Nat} {L : List (List UInt8 × Value)} (h : MpB w g L) : Mp w g L := by
 obtain ⟨es, cl, h1, h2, _⟩ := h; exact ⟨es, cl, h1, h2⟩
theorem MpB.keep {w w' : World} {g : Nat} {L : List (List UInt8 × Value)} (hk : g < w.heap.size → w'.heap[g]? = w.heap[g]?) (h : MpB w g L) : MpB w' g L := by
 obtain ⟨es, cl, h1, h2⟩ := h
 exact ⟨es, cl, (hk (Array.getElem?_eq_some_iff.1 h1).1).trans h1, h2⟩
def EntAt (w : World) (g : Nat) (L : List (List UInt8 × Value)) (k : List UInt8) (b : Nat) : Prop := ∃ (es : Array MapEntry) (clock i : Nat) (en : MapEntry), w.heap[g]? = some (.map es clock) ∧ es.toList.map (fun e => (e.key, e.val)) = L.map (fun p => (str p.1, p.2)) ∧ VE es.toList clock ∧
 es.toList[i]? = some en ∧ en.born = b ∧ ∀ v, DN L k v = L.set i (k, v)
theorem EntAt.keep {w w' : World} {g b : Nat} {L : List (List UInt8 × Value)} {k : List UInt8} (hk : g < w.heap.size → w'.heap[g]? = w.heap[g]?) (h : EntAt w g L k b) : EntAt w' g L k b := by
 obtain ⟨es, cl, i, en, h1, h2⟩ := h
 exact ⟨es, cl, i, en, (hk (Array.getElem?_eq_some_iff.1 h1).1).trans h1, h2⟩
section
variable {P : Program} {w : World} {o : Oper}
theorem K3 {ρ : Operand → Value} {t kt el : TypeId} {mp x : Operand} {g : Nat} {k : List UInt8} {L : List (List UInt8 × Value)} {z : Value} (ho : o.op = .mapEntry t mp x) (hm : ρ mp = .map (some g)) (hi : ρ x = str k) (hu : P.underlying t = some (.map kt el)) (hd : P.underlying kt = some .string) (hz : (P.info? el).map (·.zero) = some (some z))
 (hM : MpB w g L) : GM P ρ o w fun u w' => ∃ b : Nat, u = .tuple #[(CU L k).getD z, .int .i64 (b : Int)] ∧ Fr (fun b => b = g) w w' ∧ EntAt w' g (DN L k ((CU L k).getD z)) k b := by
 obtain ⟨es, clock, hb, hes, hB1, hB2⟩ := hM
 obtain ⟨inf, hinf, hinz⟩ := Option.map_eq_some_iff.1 hz
 have hlt : g < w.heap.size := (Array.getElem?_eq_some_iff.1 hb).1
 have hlen : es.toList.length = L.length := by have := congrArg List.length hes; simpa using this
 have hbits : Instr.sameBits 10000 (str k) (str k) = true := by
  unfold str
  simp [Instr.sameBits, UG]
 have fin : ∀ (es' : Array MapEntry) (clock' i : Nat) (en : MapEntry) (u : Value) (L' : List (List UInt8 × Value)), (Instr.mapEntry t (.map (some g)) (str k)).run P w = .ok (.tuple #[u, .int .i64 (en.born : Int)]) { w with heap := w.heap.setIfInBounds g (.map es' clock') } → u = (CU L k).getD z → L' = DN L k ((CU L k).getD z) →
  es'.toList.map (fun e => (e.key, e.val)) = L'.map (fun p => (str p.1, p.2)) → VE es'.toList clock' → es'.toList[i]? = some en → (∀ v, DN L' k v = L'.set i (k, v)) →
  GM P ρ o w fun u w' => ∃ b : Nat, u = .tuple #[(CU L k).getD z, .int .i64 (b : Int)] ∧ Fr (fun b => b = g) w w' ∧ EntAt w' g (DN L k ((CU L k).getD z)) k b := fun es' clock' i en u L' hrun hu' hL' hes' hB hen hput => by
  subst hu'; subst hL'
  refine ⟨_, { w with heap := w.heap.setIfInBounds g (.map es' clock') }, .inl ?_, en.born, rfl, ⟨rfl, rfl, rfl, by simp, fun r _ hn => by simp [Array.getElem?_setIfInBounds_ne (Ne.symm hn)]⟩, es', clock', i, en, by simp [hlt], hes', hB, hen, rfl, hput⟩
  unfold execOp
  simp only [ho, hm, hi, Sem.run_bind, hrun, Result.andThen_ok]
  rfl
 rcases P1 k L es.toList 0 hes with ⟨a1, a2, a3⟩ | ⟨j, v0, a1, a2, a3, a4, a5⟩
 ·refine fin (es.push { key := str k, val := z, born := clock }) (clock + 1) L.length { key := str k, val := z, born := clock } z (L ++ [(k, z)]) ?_ (by rw [a1]; rfl) (by rw [a1, a3]; rfl) (by simp [hes]) ⟨?_, ?_⟩ (by rw [Array.toList_push, ← hlen, List.getElem?_append_right (Nat.le_refl _)]; simp) ?_
  ·unfold Instr.mapEntry
   simp only [Sem.run_bind, run_underlying hu, Result.andThen_ok, GL hb, HT hd, HH hd a2]
   have hzv : (zeroValue el).run P w = .ok z w := by simp [zeroValue, typeInfo, hinf, hinz]
   simp only [hzv, Result.andThen_ok]
   unfold setObj goInt
   simp only [Sem.run, hb]
   rfl
  ·intro en hen
   rw [Array.toList_push, List.mem_append] at hen
   rcases hen with hen | hen
   ·have := hB1 en hen; omega
   ·obtain rfl := List.mem_singleton.1 hen; exact Nat.lt_succ_self _
  ·intro i j a b ha hb' hab
   rw [Array.toList_push] at ha hb'
   have cs : ∀ (i : Nat) (a : MapEntry), (es.toList ++ [{ key := str k, val := z, born := clock }])[i]? = some a → es.toList[i]? = some a ∨ (i = es.toList.length ∧ a.born = clock) := fun i a h => by
    rcases Nat.lt_or_ge i es.toList.length with hi' | hi'
    ·rw [List.getElem?_append_left hi'] at h; exact .inl h
    ·rw [List.getElem?_append_right hi'] at h
     have h0 : i - es.toList.length = 0 := by
      rcases Nat.eq_zero_or_pos (i - es.toList.length) with h0 | h0
      ·exact h0
      ·rw [List.getElem?_eq_none (by simp only [List.length_cons, List.length_nil]; omega)] at h; cases h
     rw [h0] at h
     simp only [List.getElem?_cons_zero, Option.some.injEq] at h
     exact .inr ⟨by omega, by rw [← h]⟩
   rcases cs i a ha with h1 | ⟨h1, h2⟩ <;> rcases cs j b hb' with h3 | ⟨h3, h4⟩
   ·exact hB2 i j a b h1 h3 hab
   ·have := hB1 a (List.mem_of_getElem? h1); omega
   ·have := hB1 b (List.mem_of_getElem? h3); omega
   ·omega
  ·intro v
   have h1 : L ++ [(k, z)] = DN L k z := by rw [a3]
   rw [h1, KC, a3]
   simp
 ·rw [Nat.zero_add] at a2
  obtain ⟨en, hen⟩ : ∃ en, es[j]? = some en := ⟨_, Array.getElem?_eq_getElem (by simp at hlen; omega)⟩
  have hen' : es.toList[j]? = some en := by simpa using hen
  have hkey : en.key = str k := by
   have h1 := congrArg (·[j]?) hes
   simp only [List.getElem?_map] at h1
   rw [hen'] at h1
   cases hL : L[j]? with
   | none => rw [hL] at h1; cases h1
   | some p =>
    rw [hL] at h1 a4
    simp only [Option.map_some, Option.some.injEq, Prod.mk.injEq] at h1 a4
    rw [h1.1, a4]
  have hmod : (es.modify j fun e => { e with key := str k }).toList = es.toList := by
   apply List.ext_getElem?
   intro i
   rw [Array.toList_modify, List.getElem?_modify]
   by_cases hij : j = i
   ·subst hij
    rw [hen']
    simp only [if_true, Option.map_eq_map, Option.map_some, Option.some.injEq]
    rw [← hkey]
   ·cases es.toList[i]? <;> simp [hij]
  refine fin (es.modify j fun e => { e with key := str k }) clock j en v0 L ?_ (by rw [a1]; rfl) (by rw [a1]; exact (TN a1).symm) (by rw [hmod]; exact hes) (by rw [hmod]; exact ⟨hB1, hB2⟩) (by rw [hmod]; exact hen') (fun v => by rw [a5])
  have hold : ((es[j]?).map (·.key)).getD (str k) = str k := by rw [hen]; exact hkey
  have hbn : ((es[j]?).map (fun x => (x.born : Int))).getD 0 = (en.born : Int) := by rw [hen]; rfl
  unfold Instr.mapEntry
  simp only [Sem.run_bind, run_underlying hu, Result.andThen_ok, GL hb, HT hd, HH hd a2, hold, hbn, Instr.keyThatStays, hbits, if_true, Sem.run_pure]
  unfold setObj goInt
  simp only [Sem.run, hb]
  rfl
theorem V0 {es : List MapEntry} {cl i : Nat} {en : MapEntry} (hB : VE es cl) (hen : es[i]? = some en) : es.findIdx? (fun e => (e.born : Int) == (en.born : Int)) = some i := by
 have hi : i < es.length := (List.getElem?_eq_some_iff.1 hen).1
 rw [List.findIdx?_eq_some_iff_getElem]
 refine ⟨hi, ?_, ?_⟩
 ·have : es[i] = en := (List.getElem?_eq_some_iff.1 hen).2
  simp [this]
 ·intro j hj
  have hj' : j < es.length := by omega
  have : ¬ (es[j].born : Int) = (en.born : Int) := fun e => by
   have := hB.2 j i es[j] en (List.getElem?_eq_getElem hj') hen (by omega)
   omega
  simp [this]
theorem IQ {ρ : Operand → Value} {t : TypeId} {mp s x : Operand} {g b : Nat} {k : List UInt8} {v : Value} {L : List (List UInt8 × Value)} (ho : o.op = .entryStore t mp s x) (hm : ρ mp = .map (some g)) (hs : ρ s = .int .i64 (b : Int)) (hx : ρ x = v)
 (hE : EntAt w g L k b) : GM P ρ o w fun u w' => u = undef ∧ Fr (fun b => b = g) w w' ∧ MpB w' g (DN L k v) := by
 obtain ⟨es, clock, i, en, hb, hes, hB, hen, rfl, hput⟩ := hE
 have hlt : g < w.heap.size := (Array.getElem?_eq_some_iff.1 hb).1
 have hlen : es.toList.length = L.length := by have := congrArg List.length hes; simpa using this
 have hfi : es.findIdx? (fun e => (e.born : Int) == (en.born : Int)) = some i := by
  obtain ⟨l⟩ := es
  simpa using V0 hB hen
 have hrun : (Instr.entryStore t (.map (some g)) (.int .i64 (en.born : Int)) v).run P w = .ok () { w with heap := w.heap.setIfInBounds g (.map (es.modify i fun e => { e with val := v }) clock) } := by
  unfold Instr.entryStore
  simp only [Sem.run_bind, Sem.run_pure, Result.andThen_ok, GL hb, asInt, asIntOf, hfi]
  unfold setObj
  simp only [Sem.run, hb]
 have hnew : ∀ q : Nat, (es.modify i fun e => { e with val := v }).toList[q]? = (es.toList[q]?).map (fun e => if i = q then { e with val := v } else e) := fun q => by
  rw [Array.toList_modify, List.getElem?_modify]
  by_cases hiq : i = q
  ·simp only [hiq, if_true]; cases es.toList[q]? <;> rfl
  ·simp only [if_neg hiq]; cases es.toList[q]? <;> rfl
 refine ⟨undef, { w with heap := w.heap.setIfInBounds g (.map (es.modify i fun e => { e with val := v }) clock) }, .inr ⟨?_, rfl⟩, rfl, ⟨rfl, rfl, rfl, by simp, fun r _ hn => by simp [Array.getElem?_setIfInBounds_ne (Ne.symm hn)]⟩, es.modify i fun e => { e with val := v }, clock, by simp [hlt], ?_, ?_, ?_⟩
 ·unfold execOp
  simp only [ho, hm, hs, hx, Sem.run_bind, hrun, Result.andThen_ok]
  rfl
 ·have hk : en.key = str k := by
   have h1 := congrArg (·[i]?) hes
   simp only [List.getElem?_map, hen] at h1
   have h2 := hput ((L[i]?).map (·.2) |>.getD v)
   have h3 := hput undef
   have hi : i < L.length := by have := (List.getElem?_eq_some_iff.1 hen).1; omega
   have h4 : CU (L.set i (k, undef)) k = some undef := by rw [← h3, G7, if_pos rfl]
   cases hL : L[i]? with
   | none => rw [List.getElem?_eq_getElem hi] at hL; cases hL
   | some p =>
    rw [hL] at h1
    simp only [Option.map_some, Option.some.injEq, Prod.mk.injEq] at h1
    rw [h1.1]
    have h5 : ∀ (M : List (List UInt8 × Value)) (q : Nat) (p : List UInt8 × Value), M[q]? = some p → (∀ u, DN M k u = M.set q (k, u)) → p.1 = k := by
     intro M
     induction M with
     | nil => intro q p h; simp at h
     | cons a r ih =>
      intro q p h hu
      obtain ⟨a1, a2⟩ := a
      cases q with
      | zero =>
       simp only [List.getElem?_cons_zero, Option.some.injEq] at h; subst h
       have := hu a2
       rw [DN] at this
       by_cases hka : k = a1
       ·exact hka.symm
       ·rw [if_neg hka] at this
        simp only [List.set_cons_zero, List.cons.injEq, Prod.mk.injEq] at this
        exact this.1.1
      | succ q =>
       have h6 := hu
       have hka : ¬ k = a1 := fun e => by
        have := hu undef
        rw [DN, if_pos e] at this
        simp only [List.set_cons_succ, List.cons.injEq, Prod.mk.injEq] at this
        have h7 := hu (.bool true)
        rw [DN, if_pos e] at h7
        simp only [List.set_cons_succ, List.cons.injEq, Prod.mk.injEq] at h7
        have h8 := this.1.2.trans h7.1.2.symm
        cases h8
       refine ih q p (by simpa using h) (fun u => ?_)
       have := hu u
       rw [DN, if_neg hka] at this
       simpa using this
    rw [h5 L i p hL hput]
  rw [hput]
  apply List.ext_getElem?
  intro q
  have h1 := congrArg (·[q]?) hes
  simp only [List.getElem?_map] at h1
  rw [List.getElem?_map, hnew, List.getElem?_map, List.getElem?_set]
  by_cases hiq : i = q
  ·subst hiq
   have hi : i < L.length := by have := (List.getElem?_eq_some_iff.1 hen).1; omega
   simp [hen, hi, hk]
  ·simp only [if_neg hiq]
   rw [← h1]
   cases es.toList[q]? <;> rfl
 ·intro a ha
  obtain ⟨q, hq⟩ := List.getElem?_of_mem ha
  rw [hnew] at hq
  obtain ⟨a', ha', rfl⟩ := Option.map_eq_some_iff.1 hq
  have := hB.1 a' (List.mem_of_getElem? ha')
  split <;> exact this
 ·intro p q a b' ha hb' hab
  rw [hnew] at ha hb'
  obtain ⟨a', ha', rfl⟩ := Option.map_eq_some_iff.1 ha
  obtain ⟨b'', hb'', rfl⟩ := Option.map_eq_some_iff.1 hb'
  refine hB.2 p q a' b'' ha' hb'' ?_
  have e1 : (if i = p then { a' with val := v } else a').born = a'.born := by split <;> rfl
  have e2 : (if i = q then { b'' with val := v } else b'').born = b''.born := by split <;> rfl
  rw [e1, e2] at hab; exact hab
end
end
section
def ku (k : UInt8) : Value := .int .u8 (k.toNat : Int)
def HK : List (UInt8 × Value) → UInt8 → Option Value
 | [], _ => none
 | (k', v) :: r, k => if k = k' then some v else HK r k
def M8 : List (UInt8 × Value) → UInt8 → Value → List (UInt8 × Value)
 | [], k, v => [(k, v)]
 | (k', v') :: r, k, v => if k = k' then (k, v) :: r else (k', v') :: M8 r k v
def MpU (w : World) (g : Nat) (L : List (UInt8 × Value)) : Prop := ∃ (es : Array MapEntry) (clock : Nat), w.heap[g]? = some (.map es clock) ∧ es.toList.map (fun e => (e.key, e.val)) = L.map fun p => (ku p.1, p.2)
theorem MpU.fr {S : Nat → Prop} {w w' : World} {g : Nat} {L : List (UInt8 × Value)} (h : MpU w g L) (hf : Fr S w w') (hn : ¬ S g) : MpU w' g L := by
 obtain ⟨es, cl, h1, h2⟩ := h
 exact ⟨es, cl, (hf.block g (Array.getElem?_eq_some_iff.1 h1).1 hn).trans h1, h2⟩
theorem bQ (a b : UInt8) : Instr.sameNow (.int .u8) (ku a) (ku b) = some (decide (a = b)) := by
 unfold ku
 simp only [Instr.sameNow, if_true]
 congr 1
 by_cases h : a = b
 ·subst h; simp
 ·rw [decide_eq_false h]
  simp only [beq_eq_false_iff_ne, ne_eq, Int.natCast_inj]
  exact fun hh => h (UInt8.toNat_inj.1 hh)
section
variable {P : Program} {e : Env} {w : World} {o : Oper}
theorem PR (k : UInt8) : ∀ (L : List (UInt8 × Value)) (es : List MapEntry) (i : Nat), es.map (fun e => (e.key, e.val)) = L.map (fun p => (ku p.1, p.2)) →
 (HK L k = none ∧ Instr.findNow (.int .u8) (ku k) es i = some none ∧ M8 L k = fun v => L ++ [(k, v)]) ∨
 ∃ j v, HK L k = some v ∧ Instr.findNow (.int .u8) (ku k) es i = some (some (i + j, v)) ∧ j < L.length ∧ (L[j]?).map (·.1) = some k ∧ M8 L k = fun v => L.set j (k, v)
 | [], es, i, h => by
  obtain rfl : es = [] := by simpa using h
  exact .inl ⟨rfl, rfl, by funext v; rfl⟩
 | (k', v') :: L, [], i, h => by simp at h
 | (k', v') :: L, en :: es, i, h => by
  simp only [List.map_cons, List.cons.injEq, Prod.mk.injEq] at h
  obtain ⟨⟨h1, h2⟩, h3⟩ := h
  have hc : Instr.findNow (.int .u8) (ku k) (en :: es) i = match Instr.sameNow (.int .u8) (ku k) en.key with | some true => some (some (i, en.val)) | some false => Instr.findNow (.int .u8) (ku k) es (i + 1) | none => none := rfl
  rw [h1, bQ] at hc
  by_cases hk : k = k'
  ·subst hk
   right
   refine ⟨0, v', by simp [HK], ?_, by simp, by simp, by funext v; simp [M8]⟩
   rw [hc]; simp [h2]
  ·rcases PR k L es (i + 1) h3 with ⟨a1, a2, a3⟩ | ⟨j, v, a1, a2, a3, a4, a5⟩
   ·left
    refine ⟨by simp [HK, hk, a1], ?_, by funext v; simp [M8, hk, a3]⟩
    rw [hc]; simp [hk, a2]
   ·right
    refine ⟨j + 1, v, by simp [HK, hk, a1], ?_, by simp; omega, by simpa using a4, by funext v; simp [M8, hk, a5]⟩
    rw [hc]; simp [hk, a2]; omega
theorem IX {kt : TypeId} {k : UInt8} {es : List MapEntry} {r : Option (Nat × Value)} (hd : P.underlying kt = some (.int .u8)) (hf : Instr.findNow (.int .u8) (ku k) es 0 = some r) (w : World) : (Instr.findKey kt (ku k) es).run P w = .ok r w := by
 unfold Instr.findKey
 simp [run_underlying hd, hf]
theorem JY {kt : TypeId} (hd : P.underlying kt = some (.int .u8)) (k : UInt8) (b : Bool) (w : World) : (Instr.checkKey b 10000 kt (ku k)).run P w = .ok () w := by
 show (Instr.checkKey b (9999 + 1) kt _).run P w = _
 unfold Instr.checkKey
 simp [run_underlying hd]
theorem nB (w : World) : MpU (w.alloc (.map #[] 0)) w.heap.size [] := ⟨#[], 0, by show (w.heap.push (.map #[] 0))[w.heap.size]? = _; simp, rfl⟩
theorem YO {ρ : Operand → Value} {t : TypeId} (ho : o.op = .makeMap t none) : GM P ρ o w fun v w' => ∃ g, v = .map (some g) ∧ w.heap.size ≤ g ∧ g < w'.heap.size ∧ MpU w' g [] ∧ Fr0 w w' :=
 (S5 ho).mono fun v w' ⟨h1, h2⟩ => by
  subst h2
  exact ⟨w.heap.size, h1, Nat.le_refl _, by simp, nB w, Fr.refl.alloc _⟩
theorem T6 {t kt el : TypeId} {x i : Operand} {ok : Bool} {g : Nat} {k : UInt8} {L : List (UInt8 × Value)} {z : Value} (ho : o.op = .lookup t x i ok) (hx : ev e x = some (.map (some g))) (hi : ev e i = some (ku k)) (hu : P.underlying t = some (.map kt el)) (hd : P.underlying kt = some (.int .u8))
 (hz : (P.info? el).map (·.zero) = some (some z)) (hM : MpU w g L) : Y P e o w (if ok then .tuple #[(HK L k).getD z, .bool (HK L k).isSome] else (HK L k).getD z) := fun ρ h => by
 obtain ⟨es, clock, hb, hes⟩ := hM
 obtain ⟨inf, hinf, hinz⟩ := Option.map_eq_some_iff.1 hz
 have h1 : ρ x = .map (some g) := h _ _ hx
 have h2 : ρ i = ku k := h _ _ hi
 unfold execOp
 simp only [ho, h1, h2]
 unfold Instr.lookup
 simp only [Sem.run_bind, run_underlying hu, Result.andThen_ok, Sem.run_pure, GL hb, JY hd]
 rcases PR k L es.toList 0 hes with ⟨a1, a2, _⟩ | ⟨j, v, a1, a2, _, _, _⟩
 ·simp only [IX hd a2, a1]
  cases ok <;> simp [zeroValue, typeInfo, hinf, hinz]
 ·simp only [IX hd a2, a1]
  cases ok <;> simp
theorem V1 {ρ : Operand → Value} {t kt el : TypeId} {mp i x : Operand} {g : Nat} {k : UInt8} {v : Value} {L : List (UInt8 × Value)} (ho : o.op = .mapUpdate t mp i x ∨ o.op = .insert t mp i x) (hm : ρ mp = .map (some g)) (hi : ρ i = ku k) (hx : ρ x = v) (hu : P.underlying t = some (.map kt el)) (hd : P.underlying kt = some (.int .u8))
 (hM : MpU w g L) : GM P ρ o w fun u w' => u = undef ∧ Fr (fun b => b = g) w w' ∧ MpU w' g (M8 L k v) := by
 obtain ⟨es, clock, hb, hes⟩ := hM
 have hlt : g < w.heap.size := (Array.getElem?_eq_some_iff.1 hb).1
 have fin : ∀ (es' : Array MapEntry) (clock' : Nat), (Instr.mapUpdate t (.map (some g)) (ku k) v).run P w = .ok () { w with heap := w.heap.setIfInBounds g (.map es' clock') } → es'.toList.map (fun e => (e.key, e.val)) = (M8 L k v).map (fun p => (ku p.1, p.2)) →
  GM P ρ o w fun u w' => u = undef ∧ Fr (fun b => b = g) w w' ∧ MpU w' g (M8 L k v) := fun es' clock' hrun hes' => by
  refine ⟨undef, { w with heap := w.heap.setIfInBounds g (.map es' clock') }, .inr ⟨?_, rfl⟩, rfl, ⟨rfl, rfl, rfl, by simp, fun r _ hn => by simp [Array.getElem?_setIfInBounds_ne (Ne.symm hn)]⟩, es', clock', by simp [hlt], hes'⟩
  rcases ho with ho | ho <;> (unfold execOp; simp only [ho, hm, hi, hx, Sem.run_bind, hrun, Result.andThen_ok]; rfl)
 have hbits : Instr.sameBits 10000 (ku k) (ku k) = true := by
  unfold ku
  simp [Instr.sameBits]
 rcases PR k L es.toList 0 hes with ⟨a1, a2, a3⟩ | ⟨j, v0, a1, a2, a3, a4, a5⟩
 ·refine fin (es.push { key := ku k, val := v, born := clock }) (clock + 1) ?_ (by rw [a3]; simp [hes])
  unfold Instr.mapUpdate
  simp only [Sem.run_bind, run_underlying hu, Result.andThen_ok, GL hb, JY hd, IX hd a2]
  unfold setObj
  simp only [Sem.run, hb]
 ·rw [Nat.zero_add] at a2
  have hlen : es.toList.length = L.length := by have := congrArg List.length hes; simpa using this
  obtain ⟨en, hen⟩ : ∃ en, es[j]? = some en := ⟨_, Array.getElem?_eq_getElem (by simp at hlen; omega)⟩
  have hkey : en.key = ku k := by
   have h1 := congrArg (·[j]?) hes
   simp only [List.getElem?_map] at h1
   have h2 : es.toList[j]? = some en := by simpa using hen
   rw [h2] at h1
   cases hL : L[j]? with
   | none => rw [hL] at h1; cases h1
   | some p =>
    rw [hL] at h1 a4
    simp only [Option.map_some, Option.some.injEq, Prod.mk.injEq] at h1 a4
    rw [h1.1, a4]
  refine fin (es.modify j fun e => { e with key := ku k, val := v }) clock ?_ ?_
  ·have hold : ((es[j]?).map (·.key)).getD (ku k) = ku k := by rw [hen]; exact hkey
   unfold Instr.mapUpdate
   simp only [Sem.run_bind, run_underlying hu, Result.andThen_ok, GL hb, JY hd, IX hd a2, hold, Instr.keyThatStays, hbits, if_true, Sem.run_pure]
   unfold setObj
   simp only [Sem.run, hb]
  ·rw [a5]
   apply List.ext_getElem?
   intro i
   have h1 := congrArg (·[i]?) hes
   simp only [List.getElem?_map] at h1
   rw [Array.toList_modify, List.getElem?_map, List.getElem?_modify, List.getElem?_map, List.getElem?_set]
   by_cases hij : j = i
   ·subst hij
    simp [hen, a3]
   ·simp [hij]
    simpa using h1
theorem V3 {ρ : Operand → Value} {t kt el : TypeId} {mp i x : Operand} {g : Nat} {k : UInt8} {v : Value} {L : List (UInt8 × Value)} (ho : o.op = .insert t mp i x) (hm : ρ mp = .map (some g)) (hi : ρ i = ku k) (hx : ρ x = v) (hu : P.underlying t = some (.map kt el)) (hd : P.underlying kt = some (.int .u8))
 (hM : MpU w g L) : GM P ρ o w fun u w' => u = undef ∧ Fr (fun b => b = g) w w' ∧ MpU w' g (M8 L k v) := V1 (.inr ho) hm hi hx hu hd hM
end
end
section
def ik (k : Int) : Value := .int .i64 k
theorem YJ {a b : Int} (h : ik a = ik b) : a = b := by unfold ik at h; injection h
def upd (f : Int → Option Value) (k : Int) (v : Value) : Int → Option Value := fun x => if x = k then some v else f x
structure MiOk (es : Array MapEntry) (clock : Nat) (f : Int → Option Value) : Prop where
 keys : ∀ e ∈ es.toList, ∃ k, e.key = ik k ∧ f k = some e.val
 all : ∀ k v, f k = some v → ∃ e ∈ es.toList, e.key = ik k
 nodup : (es.toList.map (·.key)).Nodup
 born : (es.toList.map (·.born)).Nodup
 old : ∀ e ∈ es.toList, e.born < clock
def Mi (w : World) (g : Nat) (f : Int → Option Value) : Prop := ∃ es clock, w.heap[g]? = some (.map es clock) ∧ MiOk es clock f
theorem MiOk.val {es : Array MapEntry} {clock : Nat} {f : Int → Option Value} (h : MiOk es clock f) {e : MapEntry} (he : e ∈ es.toList) {k : Int} (hk : e.key = ik k) : f k = some e.val := by
 obtain ⟨k', h1, h2⟩ := h.keys e he
 rw [hk] at h1
 rw [YJ h1]
 exact h2
theorem MiOk.empty : MiOk #[] 0 (fun _ => none) := ⟨by simp, by simp, by simp, by simp, by simp⟩
theorem MiOk.push {es : Array MapEntry} {clock : Nat} {f : Int → Option Value} (h : MiOk es clock f) {k : Int} (v : Value) (hn : f k = none) : MiOk (es.push { key := ik k, val := v, born := clock }) (clock + 1) (upd f k v) where
 keys e he := by
  rw [Array.toList_push, List.mem_append, List.mem_singleton] at he
  rcases he with he | rfl
  ·obtain ⟨k', h1, h2⟩ := h.keys e he
   refine ⟨k', h1, ?_⟩
   unfold upd
   rw [if_neg (by rintro rfl; rw [hn] at h2; cases h2)]
   exact h2
  ·exact ⟨k, rfl, by simp [upd]⟩
 all k' v' hv := by
  unfold upd at hv
  rw [Array.toList_push]
  by_cases hk : k' = k
  ·exact ⟨_, List.mem_append.2 (.inr (List.mem_singleton.2 rfl)), by rw [hk]⟩
  ·rw [if_neg hk] at hv
   obtain ⟨e, he, h1⟩ := h.all k' v' hv
   exact ⟨e, List.mem_append.2 (.inl he), h1⟩
 nodup := by
  rw [Array.toList_push, List.map_append, List.nodup_append]
  refine ⟨h.nodup, by simp, ?_⟩
  intro a ha b hb
  obtain ⟨e, he, rfl⟩ := List.mem_map.1 ha
  obtain rfl : b = ik k := by simpa using hb
  intro e1
  have := h.val he e1
  rw [hn] at this
  cases this
 born := by
  rw [Array.toList_push, List.map_append, List.nodup_append]
  refine ⟨h.born, by simp, ?_⟩
  intro a ha b hb
  obtain ⟨e, he, rfl⟩ := List.mem_map.1 ha
  obtain rfl : b = clock := by simpa using hb
  have := h.old e he
  omega
 old e he := by
  rw [Array.toList_push, List.mem_append, List.mem_singleton] at he
  rcases he with he | rfl
  ·have := h.old e he; omega
  ·exact Nat.lt_succ_self _
def Y5 (k : Int) (v : Value) (e : MapEntry) : MapEntry := { e with key := ik k, val := v }
theorem RQ {es : Array MapEntry} {j : Nat} {g : MapEntry → MapEntry} {e : MapEntry} (h : e ∈ (es.modify j g).toList) : (∃ i, i ≠ j ∧ es[i]? = some e) ∨ ∃ e0, es[j]? = some e0 ∧ e = g e0 := by
 obtain ⟨i, hi⟩ := List.getElem?_of_mem h
 rw [Array.toList_modify, List.getElem?_modify] at hi
 by_cases hij : j = i
 ·subst hij
  right
  simp only [if_true] at hi
  obtain ⟨e0, h1, h2⟩ := Option.map_eq_some_iff.1 hi
  exact ⟨e0, by simpa using h1, h2.symm⟩
 ·left
  simp only [if_neg hij] at hi
  exact ⟨i, fun e => hij e.symm, by simpa using hi⟩
theorem RR {β : Type} {es : Array MapEntry} {j : Nat} {g : MapEntry → MapEntry} {q : MapEntry → β} (h : ∀ e, es[j]? = some e → q (g e) = q e) : (es.modify j g).toList.map q = es.toList.map q := by
 apply List.ext_getElem?
 intro i
 rw [Array.toList_modify, List.getElem?_map, List.getElem?_modify, List.getElem?_map]
 by_cases hij : j = i
 ·subst hij
  simp only [if_true]
  cases hj : es.toList[j]? with
  | none => rfl
  | some e => simp [h e (by simpa using hj)]
 ·simp [hij]
theorem MiOk.modify {es : Array MapEntry} {clock j : Nat} {f : Int → Option Value} (h : MiOk es clock f) {k : Int} (v : Value) {en : MapEntry} (hj : es[j]? = some en) (hk : en.key = ik k) : MiOk (es.modify j (Y5 k v)) clock (upd f k v) where
 keys e he := by
  rcases RQ he with ⟨i, hij, hi⟩ | ⟨e0, h0, rfl⟩
  ·have hm : e ∈ es.toList := by have := Array.mem_of_getElem? hi; simpa using this
   obtain ⟨k', h1, h2⟩ := h.keys e hm
   refine ⟨k', h1, ?_⟩
   unfold upd
   rw [if_neg ?_]
   ·exact h2
   ·rintro rfl
    have hl : i < es.toList.length := by have := (Array.getElem?_eq_some_iff.1 hi).1; simpa using this
    have hl' : j < es.toList.length := by have := (Array.getElem?_eq_some_iff.1 hj).1; simpa using this
    have e1 : (es.toList.map (·.key))[i]? = (es.toList.map (·.key))[j]? := by
     rw [List.getElem?_map, List.getElem?_map]
     simp [hi, hj, h1, hk]
    exact hij ((List.getElem?_inj (by simpa using hl) h.nodup).1 e1)
  ·exact ⟨k, rfl, by simp [upd, Y5]⟩
 all k' v' hv := by
  have hnew : Y5 k v en ∈ (es.modify j (Y5 k v)).toList := by
   apply List.mem_of_getElem? (i := j)
   rw [Array.toList_modify, List.getElem?_modify]
   simp [hj]
  by_cases hk' : k' = k
  ·exact ⟨_, hnew, by rw [hk']; rfl⟩
  ·unfold upd at hv
   rw [if_neg hk'] at hv
   obtain ⟨e, he, h1⟩ := h.all k' v' hv
   obtain ⟨i, hi⟩ := List.getElem?_of_mem he
   refine ⟨e, ?_, h1⟩
   apply List.mem_of_getElem? (i := i)
   rw [Array.toList_modify, List.getElem?_modify]
   have hne : j ≠ i := by
    rintro rfl
    have : en = e := by have h2 : es.toList[j]? = some en := by simpa using hj
                        rw [h2] at hi; exact Option.some.inj hi
    subst this
    rw [hk] at h1
    exact hk' (YJ h1).symm
   simp [hne, hi]
 nodup := by rw [RR (fun e he => by rw [hj] at he; injection he with he; subst he; exact hk.symm)]; exact h.nodup
 born := by rw [RR (g := Y5 k v) (q := fun e => e.born) (fun e he => rfl)]; exact h.born
 old e he := by
  rcases RQ he with ⟨i, _, hi⟩ | ⟨e0, h0, rfl⟩
  ·exact h.old e (by have := Array.mem_of_getElem? hi; simpa using this)
  ·exact h.old e0 (by have := Array.mem_of_getElem? h0; simpa using this)
theorem gD (a b : Int) (q : IntKind) : Instr.sameNow (.int q) (ik a) (ik b) = some (a == b) := by
 unfold ik
 simp only [Instr.sameNow, if_true]
theorem X1 (q : IntKind) (k : Int) : ∀ (es : List MapEntry) (i : Nat), (∀ e ∈ es, ∃ k', e.key = ik k') →
 ((∀ e ∈ es, e.key ≠ ik k) ∧ Instr.findNow (.int q) (ik k) es i = some none) ∨ ∃ j e, es[j]? = some e ∧ e.key = ik k ∧ Instr.findNow (.int q) (ik k) es i = some (some (i + j, e.val))
 | [], i, _ => .inl ⟨fun _ h => by (cases h), rfl⟩
 | en :: es, i, h => by
  obtain ⟨k', hk'⟩ := h en (by simp)
  have hc : Instr.findNow (.int q) (ik k) (en :: es) i = match Instr.sameNow (.int q) (ik k) en.key with | some true => some (some (i, en.val)) | some false => Instr.findNow (.int q) (ik k) es (i + 1) | none => none := rfl
  rw [hk', gD] at hc
  by_cases hk : k = k'
  ·subst hk
   refine .inr ⟨0, en, rfl, hk', ?_⟩
   rw [hc]; simp
  ·have hb : (k == k') = false := by simpa using hk
   rw [hb] at hc
   rcases X1 q k es (i + 1) (fun e he => h e (List.mem_cons_of_mem _ he)) with ⟨h1, h2⟩ | ⟨j, e, h1, h2, h3⟩
   ·refine .inl ⟨fun e he => ?_, by rw [hc]; exact h2⟩
    rcases List.mem_cons.1 he with rfl | he
    ·rw [hk']; exact fun e => hk (YJ e).symm
    ·exact h1 e he
   ·refine .inr ⟨j + 1, e, by simpa using h1, h2, ?_⟩
    rw [hc]
    show Instr.findNow (.int q) (ik k) es (i + 1) = _
    rw [h3, show i + 1 + j = i + (j + 1) by omega]
theorem MiOk.find {es : Array MapEntry} {clock : Nat} {f : Int → Option Value} (h : MiOk es clock f) (q : IntKind) (k : Int) :
 (f k = none ∧ Instr.findNow (.int q) (ik k) es.toList 0 = some none) ∨ ∃ j e, es[j]? = some e ∧ e.key = ik k ∧ f k = some e.val ∧ Instr.findNow (.int q) (ik k) es.toList 0 = some (some (j, e.val)) := by
 rcases X1 q k es.toList 0 (fun e he => by obtain ⟨k', h1, _⟩ := h.keys e he; exact ⟨k', h1⟩) with ⟨h1, h2⟩ | ⟨j, e, h1, h2, h3⟩
 ·refine .inl ⟨?_, h2⟩
  cases hf : f k with
  | none => rfl
  | some v =>
   obtain ⟨e, he, hk⟩ := h.all k v hf
   exact absurd hk (h1 e he)
 ·refine .inr ⟨j, e, by simpa using h1, h2, h.val (List.mem_of_getElem? h1) h2, by simpa using h3⟩
section
variable {P : Program} {e : Env} {w : World} {o : Oper}
theorem MO {kt : TypeId} {q : IntKind} {k : Int} {es : List MapEntry} {r : Option (Nat × Value)} (hd : P.underlying kt = some (.int q)) (hf : Instr.findNow (.int q) (ik k) es 0 = some r) (w : World) : (Instr.findKey kt (ik k) es).run P w = .ok r w := by
 unfold Instr.findKey
 simp [run_underlying hd, hf]
theorem NI {kt : TypeId} {q : IntKind} (hd : P.underlying kt = some (.int q)) (k : Int) (b : Bool) (w : World) : (Instr.checkKey b 10000 kt (ik k)).run P w = .ok () w := by
 show (Instr.checkKey b (9999 + 1) kt _).run P w = _
 unfold Instr.checkKey
 simp [run_underlying hd]
theorem PG {g clock : Nat} {es : Array MapEntry} (hb : w.heap[g]? = some (.map es clock)) : (Go.getObj g).run P w = .ok (.map es clock) w := by
 unfold Go.getObj
 simp only [Sem.run, hb]
theorem dD {ρ : Operand → Value} {t : TypeId} (ho : o.op = .makeMap t none) : GM P ρ o w fun v w' => ∃ g, v = .map (some g) ∧ w.heap.size ≤ g ∧ g < w'.heap.size ∧ Mi w' g (fun _ => none) ∧ Fr0 w w' := by
 refine ⟨.map (some w.heap.size), w.alloc (.map #[] 0), .inl ?_, w.heap.size, rfl, Nat.le_refl _, by simp, ⟨#[], 0, by show (w.heap.push (.map #[] 0))[w.heap.size]? = _; simp, MiOk.empty⟩, Fr.refl.alloc _⟩
 unfold execOp
 simp [ho, Instr.makeMap]
theorem lD {t kt el : TypeId} {q : IntKind} {x i : Operand} {ok : Bool} {g : Nat} {k : Int} {f : Int → Option Value} {z : Value} (ho : o.op = .lookup t x i ok) (hx : ev e x = some (.map (some g))) (hi : ev e i = some (.int .i64 k)) (hu : P.underlying t = some (.map kt el)) (hd : P.underlying kt = some (.int q))
 (hz : (P.info? el).map (·.zero) = some (some z)) (hM : Mi w g f) : Y P e o w (if ok then .tuple #[(f k).getD z, .bool (f k).isSome] else (f k).getD z) := fun ρ h => by
 obtain ⟨es, clock, hb, hes⟩ := hM
 obtain ⟨inf, hinf, hinz⟩ := Option.map_eq_some_iff.1 hz
 have h1 : ρ x = .map (some g) := h _ _ hx
 have h2 : ρ i = ik k := h _ _ hi
 unfold execOp
 simp only [ho, h1, h2]
 unfold Instr.lookup
 simp only [Sem.run_bind, run_underlying hu, Result.andThen_ok, Sem.run_pure, PG hb, NI hd]
 rcases hes.find q k with ⟨a1, a2⟩ | ⟨j, en, _, _, a1, a2⟩
 ·simp only [MO hd a2, a1]
  cases ok <;> simp [zeroValue, typeInfo, hinf, hinz]
 ·simp only [MO hd a2, a1]
  cases ok <;> simp
theorem YF {t kt el : TypeId} {q : IntKind} {g clock : Nat} {es : Array MapEntry} {k : Int} {v : Value} {f : Int → Option Value} (hu : P.underlying t = some (.map kt el)) (hd : P.underlying kt = some (.int q)) (hb : w.heap[g]? = some (.map es clock)) (hes : MiOk es clock f) :
 ∃ es' clock', (Instr.mapUpdate t (.map (some g)) (ik k) v).run P w = .ok () { w with heap := w.heap.setIfInBounds g (.map es' clock') } ∧ MiOk es' clock' (upd f k v) ∧
  (f k ≠ none → clock' = clock ∧ ∃ j en, es[j]? = some en ∧ en.key = ik k ∧ es' = es.modify j (Y5 k v)) := by
 have hbits : Instr.sameBits 10000 (ik k) (ik k) = true := by
  unfold ik
  simp [Instr.sameBits]
 rcases hes.find q k with ⟨a1, a2⟩ | ⟨j, en, hen, hkey, a1, a2⟩
 ·refine ⟨es.push { key := ik k, val := v, born := clock }, clock + 1, ?_, hes.push v a1, fun h => absurd a1 h⟩
  unfold Instr.mapUpdate
  simp only [Sem.run_bind, run_underlying hu, Result.andThen_ok, PG hb, NI hd, MO hd a2]
  unfold setObj
  simp only [Sem.run, hb]
 ·refine ⟨es.modify j (Y5 k v), clock, ?_, hes.modify v hen hkey, fun _ => ⟨rfl, j, en, hen, hkey, rfl⟩⟩
  have hold : ((es[j]?).map (·.key)).getD (ik k) = ik k := by rw [hen]; exact hkey
  unfold Instr.mapUpdate
  simp only [Sem.run_bind, run_underlying hu, Result.andThen_ok, PG hb, NI hd, MO hd a2, hold, Instr.keyThatStays, hbits, if_true, Sem.run_pure]
  unfold setObj
  simp only [Sem.run, hb]
  rfl
theorem dC {ρ : Operand → Value} {t kt el : TypeId} {q : IntKind} {mp i x : Operand} {g : Nat} {k : Int} {v : Value} {f : Int → Option Value} (ho : o.op = .mapUpdate t mp i x) (hm : ρ mp = .map (some g)) (hi : ρ i = .int .i64 k) (hx : ρ x = v) (hu : P.underlying t = some (.map kt el)) (hd : P.underlying kt = some (.int q))
 (hM : Mi w g f) : GM P ρ o w fun u w' => u = undef ∧ Fr (fun b => b = g) w w' ∧ Mi w' g (upd f k v) := by
 obtain ⟨es, clock, hb, hes⟩ := hM
 have hlt : g < w.heap.size := (Array.getElem?_eq_some_iff.1 hb).1
 obtain ⟨es', clock', hrun, hok, _⟩ := YF (P := P) (k := k) (v := v) hu hd hb hes
 refine ⟨undef, { w with heap := w.heap.setIfInBounds g (.map es' clock') }, .inr ⟨?_, rfl⟩, rfl, ⟨rfl, rfl, rfl, by simp, fun r _ hn => by simp [Array.getElem?_setIfInBounds_ne (Ne.symm hn)]⟩, es', clock', by simp [hlt], hok⟩
 unfold execOp
 have hi' : ρ i = ik k := hi
 simp only [ho, hm, hi', hx, Sem.run_bind, hrun, Result.andThen_ok]; rfl
structure MiR (w : World) (g r : Nat) (f : Int → Option Value) (todo : Int → Bool) (n : Nat) : Prop where
 ex : ∃ es clock since seen c0, w.heap[g]? = some (.map es clock) ∧ MiOk es clock f ∧ w.heap[r]? = some (.mapIter (some g) since seen c0) ∧ (∀ x ∈ es.toList, x.born < since) ∧ since ≤ c0 ∧ since ≤ clock ∧ (leftOf es seen).size = n ∧
  (∀ x ∈ es.toList, ∀ k, x.key = ik k → todo k = !seen.contains x.born)
 fin : ∀ k, todo k = true → f k ≠ none
end
end
open Tryz
section
section
variable {P : Program} {e : Env} {w : World} {o : Oper}
theorem Z3 {s d : TypeId} {x : Operand} {v v' : Value} (ho : o.op = .convert s d x) (hx : ev e x = some v) (hc : (convert s d v).run P w = .ok v' w) : Y P e o w v' := fun ρ h => by
 unfold execOp; simp [ho, h _ _ hx, hc]
theorem aX {t t' el n : Nat} {a : Addr} {x y : Operand} (ho : o.op = .binOp .neq t x y t') (hx : ev e x = some (.pointer (some a))) (hy : ev e y = some (.pointer (some a))) (hu : MP P t = some el) (hz : ∀ w, (Go.sizeOf el).run P w = .ok n w) : Y P e o w (.bool false) := fun ρ h => by
 have h1 : (Op.equal t (.pointer (some a)) (.pointer (some a))).run P w = .ok true w := by
  unfold Op.equal Op.maxDepth Op.equalIn
  simp [run_underlying (RI hu), hz, sameAddr]
 unfold execOp; simp [ho, h _ _ hx, h _ _ hy, eqGuard_at_pointer, binOp, h1]
theorem oY {f : FuncId} {x : Operand} {ts : Array TypeId} {v : Value} (ho : o.op = .call { callee := .value (.func f), args := #[x], argTypes := ts }) (hx : ev e x = some v) (hc : ∀ (u : Value) (w : World), (callFunc f #[u]).run P w = .ok (.value u) w) : Y P e o w v := fun ρ h => by
 have h0 : ρ (.func f) = .func (.func f) #[] #[] := h _ _ rfl
 unfold execOp; simp [ho, h _ _ hx, h0, resolve, invoke, Deferred.ofValue, hc]
end
theorem Fr.below1 {w w' : World} {b B : Nat} (h : Fr (fun k => k = b) w w') (hb : B ≤ b) (hBw : B ≤ w.heap.size) : Below B w w' := ⟨h.os, h.tape, h.output, h.size, fun k hk => h.block k (by omega) (by omega)⟩
theorem rQ (u : Value) (w : World) : (callFunc 187 #[u]).run prog w = .ok (.value u) w := by
 rw [run_callFunc_extern func187 (by kernel_rfl) (by kernel_rfl) (by kernel_rfl) (e := Extern.AbiNoEscape.same) (by kernel_rfl), Lib.run_noEscape]
 rfl
theorem kW : liesAt prog prog.depth 198 (2 / prog.cellsOf 198) 0 198 1 = true := by kernel_rfl
theorem kX : (prog.info? 198).map (·.size) = some 2 := by kernel_rfl
theorem gP : (prog.info? 195).map (·.size) = some 1 := by kernel_rfl
theorem fW : (prog.info? 196).map (·.size) = some 1 := by kernel_rfl
theorem lU : (prog.info? 5).map (fun i => (i.zero, i.size, i.bytes)) = some (some (.int .u8 0), 1, 1) := by kernel_rfl
theorem pJ : (prog.info? 5).map (fun i => (i.zero, i.size)) = some (some (.int .u8 0), 1) := by kernel_rfl
theorem V5 (B b : Nat) (bs : List Value) (w : World) (h : Lib.IsBuilder 198 5 B b bs w) (hBw : B ≤ w.heap.size) :
 Calls prog 163 #[.pointer (some ⟨b, 0, none⟩)] w fun e w' => e = .returned (.tuple #[]) ∧ Lib.BuilderAt 198 5 B b (.pointer (some ⟨b, 0, none⟩)) bs w' ∧ Below B w w' := by
 rcases h with h | h
 ·have hsh := h.shape
  obtain ⟨hB, v, hbk, hown, hne⟩ := h
  have hb : Blk w b 198 [.pointer none, v] := hbk
  have c0 : Cell w.heap b 0 (.pointer none) := hb.c 0 rfl
  obtain ⟨j, hj, hjs⟩ := Option.map_eq_some_iff.1 kX
  refine BE (vs := [_]) func163 rfl ntmps163 rfl (srg (yb rfl (yb rfl (yb rfl (yl rfl rfl (by assumption) (ya rfl (J5 rfl rfl rfl (pt rfl)) (nq (EL rfl (AK (yb rfl (yb rfl (ya rfl (Z3 rfl rfl (Lib.run_to_unsafe _ ⟨b, 0, none⟩ underlying195 underlying237 hj (by rw [hjs]; decide) hsh (by show 0 < 2; omega))) (ya rfl (oY rfl rfl rQ) ?_)))))))))))))
  refine ya rfl (Z3 rfl rfl (Lib.run_from_unsafe _ ⟨b, 0, none⟩ underlying237 underlying195 hj hsh kW)) (yb rfl (yb rfl (CH none (AA rfl) rfl rfl (fun ρ hρ => E9 _ _ _ rfl b 0 _ _ (.pointer (some ⟨b, 0, none⟩)) (hρ _ _ rfl) (hρ _ _ rfl) rfl hb gP (by show 0 < 2; omega) rfl) ?_)))
  rintro _ w1 ⟨rfl, hb1, hf1⟩
  exact AR (CM (Or.inr rfl) rfl ⟨rfl, ⟨hB, v, hb1, Y9 hown hf1 (fun k hk e => hne (by rw [hk, e])), hne⟩, hf1.below1 hB hBw⟩)
 ·have h' := h
  obtain ⟨hB, v, hbk, hown, hne⟩ := h
  have hb : Blk w b 198 [.pointer (some ⟨b, 0, none⟩), v] := hbk
  have c0 : Cell w.heap b 0 (.pointer (some ⟨b, 0, none⟩)) := hb.c 0 rfl
  refine BE (vs := [_]) func163 rfl ntmps163 rfl (srg (yb rfl (yb rfl (yb rfl (yl rfl rfl (by assumption) (ya rfl (J5 rfl rfl rfl (pt rfl)) (nq (D8 rfl (srg (yb rfl (yb rfl (yb rfl ?_))))))))))))
  exact yl rfl rfl (by assumption) (yb rfl (ya rfl (aX rfl rfl rfl (pt rfl) sizeOf198) (nq (D8 rfl (AI (CM (Or.inr rfl) rfl ⟨rfl, h', Below.refl B w⟩))))))
theorem O3 (B b : Nat) (l : List UInt8) (c : UInt8) (w : World) (h : Lib.IsBuilder 198 5 B b (bvs l) w) (hlen : l.length + 1 ≤ 140737488355328) (hBw : B ≤ w.heap.size) :
 Calls prog 145 #[.pointer (some ⟨b, 0, none⟩), .int .u8 (c.toNat : Int)] w fun e w' => e = .returned .nilIface ∧ Lib.IsBuilder 198 5 B b (bvs (l ++ [c])) w' ∧ Below B w w' := by
 refine BE (vs := [_, _]) func145 rfl ntmps145 rfl (srg (yb rfl (nq (srg (yb rfl (B3 (some 6) (AA rfl) rfl rfl (AP rfl rfl call163) (V5 B b _ _ h hBw) ?_))))))
 rintro _ w1 ⟨rfl, h1, hb1⟩
 refine ⟨_, rfl, ?_⟩
 obtain ⟨hB, v, hbk, hown, hne⟩ := h1
 have hb : Blk w1 b 198 [.pointer (some ⟨b, 0, none⟩), v] := hbk
 obtain ⟨A, cap, rfl, _, hcm, hrd, _⟩ := WE hown
 have c1 : Cell w1.heap b 1 (.slice A (bvs l).length cap) := hb.c 1 rfl
 refine nq (srg ?_)
 iterate 4 refine yb rfl ?_
 refine yl rfl rfl (by assumption) (yb rfl (CH (some 13) (AA rfl) rfl rfl (fun ρ hρ => DR [bv c] (.int .u8 0) hρ rfl rfl rfl rfl underlying196 pJ (by decide) (by decide) (by intro u hu; simp only [List.mem_singleton] at hu; subst hu; rfl)) ?_))
 rintro _ w2 ⟨g2, rfl, hg1, hg2, hb2, hf2⟩
 have hB1 := hb1.size
 refine CH (some 14) (AA rfl) rfl rfl (fun ρ hρ => X8 _ _ 196 rfl B 5 _ _ underlying196 lU rfl _ _ (bvs l) (hρ _ _ rfl) (Y9 hown hf2 (fun _ _ hh => hh)) _ 1 1 [bv c] (hρ _ _ rfl) (Rd.ofBlk hb2 rfl) (by intro u hu; simp only [List.mem_singleton] at hu; subst hu; rfl) (by rw [SH]; unfold maxLen; omega) (by rw [SH]; omega) (by have := hf2.size; omega)) ?_
 rintro v3 w3 ⟨hown3, hgr, hrow⟩
 obtain ⟨A3, cap3, rfl, _, _, _, _⟩ := WE hown3
 have hlt : b < w1.heap.size := hb.lt
 have hb3 : Blk w3 b 198 [.pointer (some ⟨b, 0, none⟩), .slice A (bvs l).length cap] := by
  have h2 : Blk w2 b 198 _ := hb.fr0 hf2
  exact (hgr.block b h2.lt (fun e => hne e.symm)).trans h2
 have hne3 : (Value.slice A3 ((bvs l).length + 1) cap3).ownBlock ≠ some b := Lib.ownBlock_ne hown3 hb3 (by decide)
 refine yb rfl (yb rfl (CH none (AA rfl) rfl rfl (fun ρ hρ => E9 _ _ _ rfl b 1 _ _ (.slice A3 ((bvs l).length + 1) cap3) (hρ _ _ rfl) (hρ _ _ rfl) rfl hb3 fW (by show 1 < 2; omega) rfl) ?_))
 rintro _ w4 ⟨rfl, hb4, hf4⟩
 refine nq (srg (yb rfl (nq (BN (CQ rfl rfl ?_)))))
 have hl : bvs (l ++ [c]) = bvs l ++ [bv c] := by simp [bvs]
 have hf3 : Fr (fun k => some k = (Value.slice A (bvs l).length cap).ownBlock) w2 w3 := ⟨hgr.os, hgr.tape, hgr.output, hgr.size, fun k hk hn => hgr.block k hk hn⟩
 refine ⟨rfl, .inr ⟨hB, _, hb4, ?_, ?_⟩, ?_⟩
 ·rw [hl]
  have := Y9 hown3 hf4 (fun k hk e => hne3 (by rw [hk, e]))
  simpa using this
 ·simpa using hne3
 ·have hw2 := hf2.size
  refine hb1.trans ⟨hf4.os.trans (hf3.os.trans hf2.os), hf4.tape.trans (hf3.tape.trans hf2.tape), hf4.output.trans (hf3.output.trans hf2.output), Nat.le_trans hf2.size (Nat.le_trans hf3.size hf4.size), fun k hk => ?_⟩
  rw [hf4.block k (by have := hf3.size; omega) (by omega), hf3.block k (by omega) (fun e => ?_), hf2.block k (by omega) (fun hh => hh)]
  have := (hown.lt k e.symm).1
  omega
end
theorem GB {P : Program} {e : Env} {w : World} {o : Oper} {t t' : Nat} {a b : List UInt8} {x y : Operand} (ho : o.op = .binOp .add t x y t') (hx : ev e x = some (str a)) (hy : ev e y = some (str b)) (hl : a.length + b.length ≤ 9223372036854775807) : Y P e o w (str (a ++ b)) := fun ρ h => by
 have h1 : ρ x = .string ⟨a.toArray⟩ := h _ _ hx
 have h2 : ρ y = .string ⟨b.toArray⟩ := h _ _ hy
 unfold execOp
 have hs : ((⟨a.toArray⟩ : ByteArray).size : Nat) = a.length := by show a.toArray.size = _; simp
 have hs2 : ((⟨b.toArray⟩ : ByteArray).size : Nat) = b.length := by show b.toArray.size = _; simp
 have hap : (⟨a.toArray⟩ : ByteArray) ++ (⟨b.toArray⟩ : ByteArray) = ⟨(a ++ b).toArray⟩ := by
  apply ByteArray.ext
  rw [ByteArray.data_append]
  simp
 simp [ho, h1, h2, binOp, Op.stringOp, eqGuard_at_string, hs, hs2, hap, str, show ¬ ((9223372036854775807 : Int) < (a.length : Int) + (b.length : Int)) by omega]
end Go.Proofs.YtjaocmocdhckaaaGreatDoor
namespace Go.Proofs
open Go.Shelf
def Tryz.lays189_ren : Go.Shelf.Ren := ⟨fun | 189 => 169 | 125 => 191 | 257 => 190 | 128 => 215 | 129 => 216 | 294 => 206 | 295 => 207 | 296 => 208 | 297 => 209 | 298 => 210 | 299 => 211 | 216 => 212 | 300 => 213 | 301 => 214 | 328 => 222 | 329 => 223 | 330 => 224 | 331 => 225 | 332 => 226 | 215 => 152 | 343 => 243 | n => n, fun | 28 => 215 | 3 => 3 | 46 => 225 | 0 => 0 | 51 => 265 | 53 => 231 | 4 => 4 | 183 => 257 | 182 => 256 | 131 => 262 | 5 => 5 | 9 => 9 | 218 => 276 | 222 => 280 | 228 => 288 | 229 => 289 | n => n, fun | n => n⟩
theorem Tryz.lays189 : Go.Proofs.Lays.n189 prog Tryz.lays189_ren := {
 mixed := by kernel_rfl
 f125 := func191.trans (congrArg some (by kernel_rfl))
 f128 := func215.trans (congrArg some (by kernel_rfl))
 f129 := func216.trans (congrArg some (by kernel_rfl))
 f189 := func169.trans (congrArg some (by kernel_rfl))
 f215 := func152.trans (congrArg some (by kernel_rfl))
 f216 := func212.trans (congrArg some (by kernel_rfl))
 f257 := func190.trans (congrArg some (by kernel_rfl))
 f294 := func206.trans (congrArg some (by kernel_rfl))
 f295 := func207.trans (congrArg some (by kernel_rfl))
 f296 := func208.trans (congrArg some (by kernel_rfl))
 f297 := func209.trans (congrArg some (by kernel_rfl))
 f298 := func210.trans (congrArg some (by kernel_rfl))
 f299 := func211.trans (congrArg some (by kernel_rfl))
 f300 := func213.trans (congrArg some (by kernel_rfl))
 f301 := func214.trans (congrArg some (by kernel_rfl))
 f328 := func222.trans (congrArg some (by kernel_rfl))
 f329 := func223.trans (congrArg some (by kernel_rfl))
 f330 := func224.trans (congrArg some (by kernel_rfl))
 f331 := func225.trans (congrArg some (by kernel_rfl))
 f332 := func226.trans (congrArg some (by kernel_rfl))
 f343 := func243.trans (congrArg some (by kernel_rfl))
 t0 := underlying0
 a0 := isAgg0
 z0 := sizeOf0
 v0 := zeroValue0
 t3 := underlying3
 a3 := isAgg3
 z3 := sizeOf3
 v3 := zeroValue3
 t4 := underlying4
 a4 := isAgg4
 z4 := sizeOf4
 v4 := zeroValue4
 t5 := underlying5
 a5 := isAgg5
 z5 := sizeOf5
 v5 := zeroValue5
 t9 := underlying9
 a9 := isAgg9
 z9 := sizeOf9
 v9 := zeroValue9
 t28 := underlying215
 a28 := isAgg215
 z28 := sizeOf215
 v28 := zeroValue215
 t46 := underlying225
 a46 := isAgg225
 z46 := sizeOf225
 v46 := zeroValue225
 t51 := underlying265
 a51 := isAgg265
 z51 := sizeOf265
 v51 := zeroValue265
 t53 := underlying231
 a53 := isAgg231
 z53 := sizeOf231
 v53 := zeroValue231
 t131 := underlying262
 a131 := isAgg262
 z131 := sizeOf262
 v131 := zeroValue262
 t182 := underlying256
 a182 := isAgg256
 z182 := sizeOf256
 v182 := zeroValue256
 t183 := underlying257
 a183 := isAgg257
 z183 := sizeOf257
 v183 := zeroValue257
 t218 := underlying276
 a218 := isAgg276
 z218 := sizeOf276
 v218 := zeroValue276
 t222 := underlying280
 a222 := isAgg280
 z222 := sizeOf280
 v222 := zeroValue280
 t228 := underlying288
 a228 := isAgg288
 z228 := sizeOf288
 v228 := zeroValue288
 t229 := underlying289
 a229 := isAgg289
 z229 := sizeOf289
 v229 := zeroValue289 }
open Go.Sort Go.RowKit in
theorem Tryz.slices_Sort_int (blk off cap : Nat) (zs : List Int) (w : World) (hH : Holds (Value.int .i64) w blk off zs.toArray) (hblk : blk < w.heap.size) (hsz : zs.length < 4611686018427387904) :
 Calls prog 169 #[.slice (some ⟨blk, off, none⟩) zs.length cap] w fun e w' =>
  e = .returned (.tuple #[]) ∧ ∃ n os, w' = grow (putRow (Value.int .i64) (Sort.ahead w n) blk off (zs.mergeSort fun x y => decide (x ≤ y)).toArray) os := Any.slices_Sort_int Tryz.lays189 blk off cap zs w hH hblk hsz
open Go.RowKit Go.Sort in
theorem Tryz.slices_Sort_int_none (p : Option Addr) (cap : Nat) (w : World) :
 Calls prog 169 #[.slice p 0 cap] w fun e w' => e = .returned (.tuple #[]) ∧ w' = w := Any.slices_Sort_int_none Tryz.lays189 p cap w
end Go.Proofs
namespace Go.Proofs
open Go.Shelf
def Tryz.lays106_ren : Go.Shelf.Ren := ⟨fun | 106 => 266 | 213 => 269 | 265 => 270 | n => n, fun | 9 => 9 | 3 => 3 | n => n, fun | n => n⟩
theorem Tryz.lays106 : Go.Proofs.Lays.n106 prog Tryz.lays106_ren := {
 mixed := by kernel_rfl
 f106 := func266.trans (congrArg some (by kernel_rfl))
 f213 := func269.trans (congrArg some (by kernel_rfl))
 f265 := func270.trans (congrArg some (by kernel_rfl))
 t3 := underlying3
 a3 := isAgg3
 z3 := sizeOf3
 v3 := zeroValue3
 t9 := underlying9
 a9 := isAgg9
 z9 := sizeOf9
 v9 := zeroValue9 }
open Go.RowKit in
theorem Tryz.strings_Compare (a b : ByteArray) (w : World) :
 Calls prog 266 #[.string a, .string b] w fun e w' => e = .returned (.int .i64 (Lib.compareBytes a.data.toList b.data.toList)) ∧ w' = w := Any.strings_Compare Tryz.lays106 a b w
def Tryz.lays264_ren : Go.Shelf.Ren := ⟨fun | 264 => 253 | n => n, fun | 53 => 231 | 46 => 225 | n => n, fun | n => n⟩
theorem Tryz.lays264 : Go.Proofs.Lays.n264 prog Tryz.lays264_ren := {
 mixed := by kernel_rfl
 f264 := func253.trans (congrArg some (by kernel_rfl))
 t46 := underlying225
 a46 := isAgg225
 z46 := sizeOf225
 v46 := zeroValue225
 t53 := underlying231
 a53 := isAgg231
 z53 := sizeOf231
 v53 := zeroValue231 }
open Go.RowKit Go.Lib in
theorem Tryz.bits_Mul64 (x y : Nat) (hx : x < 18446744073709551616) (hy : y < 18446744073709551616) (w : World) :
 Calls prog 253 #[.int .u64 x, .int .u64 y] w fun e w' => e = .returned (.tuple #[.int .u64 ((x * y / 18446744073709551616 : Nat) : Int), .int .u64 ((x * y % 18446744073709551616 : Nat) : Int)]) ∧ w' = w := Any.bits_Mul64 Tryz.lays264 x y hx hy w
end Go.Proofs
namespace Go.Proofs
open Go.Shelf
def Tryz.lays112_ren : Go.Shelf.Ren := ⟨fun | 112 => 170 | n => n, fun | 28 => 215 | 3 => 3 | 4 => 4 | 0 => 0 | n => n, fun | n => n⟩
theorem Tryz.lays112 : Go.Proofs.Lays.n112 prog Tryz.lays112_ren := {
 mixed := by kernel_rfl
 f112 := func170.trans (congrArg some (by kernel_rfl))
 t0 := underlying0
 a0 := isAgg0
 z0 := sizeOf0
 v0 := zeroValue0
 t3 := underlying3
 a3 := isAgg3
 z3 := sizeOf3
 v3 := zeroValue3
 t4 := underlying4
 a4 := isAgg4
 z4 := sizeOf4
 v4 := zeroValue4
 t28 := underlying215
 a28 := isAgg215
 z28 := sizeOf215
 v28 := zeroValue215 }
open Go.RowKit Go.Lib Go.Sort in
theorem Tryz.slices_Reverse_int (blk off cap : Nat) (zs : List Int) (w : World) (hH : Holds (Value.int .i64) w blk off zs.toArray) (hsz : zs.length ≤ 9223372036854775807) :
 Calls prog 170 #[.slice (some ⟨blk, off, none⟩) zs.length cap] w fun e w' => e = .returned (.tuple #[]) ∧ ∃ n, w' = putRow (Value.int .i64) (Sort.ahead w n) blk off zs.reverse.toArray := Any.slices_Reverse_int Tryz.lays112 blk off cap zs w hH hsz
open Go.RowKit Go.Lib Go.Sort in
theorem Tryz.slices_Reverse_int_empty (a : Option Addr) (cap : Nat) (w : World) :
 Calls prog 170 #[.slice a 0 cap] w fun e w' => e = .returned (.tuple #[]) ∧ w' = w := Any.slices_Reverse_int_empty Tryz.lays112 a cap w
end Go.Proofs
namespace Go.Proofs.YtjaocmocdhckaaaGreatDoor
open Go.RowKit
section
def FK (L : List (List UInt8 × Value)) (k : List UInt8) : Value := (CU L k).getD (.slice none 0 0)
theorem JE (L : List (List UInt8 × Value)) (k k' : List UInt8) (v : Value) : FK (DN L k v) k' = if k' = k then v else FK L k' := by
 unfold FK
 rw [G7]
 split <;> rfl
theorem WD {w w' : World} {base size n : Nat} {e : TypeId} {v : Value} {xs : List Value} (h : w.ownsRow base e size v n xs) (hk : ∀ b, v.ownBlock = some b → b < w.heap.size → w'.heap[b]? = w.heap[b]?) : w'.ownsRow base e size v n xs := by
 refine ⟨h.1, ?_⟩
 rcases h.2 with hh | ⟨g, cap, cur, rfl, hb, hg, r⟩
 ·exact .inl hh
 ·exact .inr ⟨g, cap, cur, rfl, hb, (hk g rfl (Array.getElem?_eq_some_iff.1 hg).1).trans hg, r⟩
structure Fam {α : Type} (w : World) (base : Nat) (e : TypeId) (size : Nat) (cells : α → List Value) (g : Nat) (L : List (List UInt8 × Value)) (rows : List UInt8 → List α) (bad : List UInt8 → Prop) (F : List Nat) : Prop where
 map : Mp w g L
 gF : ¬ g ∈ F
 row : ∀ k, ¬ bad k → w.ownsRow base e size (FK L k) (rows k).length (AH cells (rows k)) ∧ ∀ b, (FK L k).ownBlock = some b → b ∈ F
 apart : ∀ k k' b, ¬ bad k → ¬ bad k' → (FK L k).ownBlock = some b → (FK L k').ownBlock = some b → k = k'
section
variable {α : Type} {w w' w0 : World} {base size g : Nat} {e : TypeId} {cells : α → List Value} {L : List (List UInt8 × Value)} {rows : List UInt8 → List α} {bad : List UInt8 → Prop} {F : List Nat} {S : Nat → Prop} {Ls : List As}
theorem Fam.keep (hk : ∀ b ∈ g :: F, b < w.heap.size → w'.heap[b]? = w.heap[b]?) (h : Fam w base e size cells g L rows bad F) : Fam w' base e size cells g L rows bad F := by
 obtain ⟨⟨es, cl, h1, h2⟩, hg, hr, ha⟩ := h
 exact ⟨⟨es, cl, (hk g (by simp) (Array.getElem?_eq_some_iff.1 h1).1).trans h1, h2⟩, hg, fun k hb => ⟨WD (hr k hb).1 (fun b hb' hl => hk b (List.mem_cons_of_mem _ ((hr k hb).2 b hb')) hl), (hr k hb).2⟩, ha⟩
def As.fam {α : Type} (base : Nat) (e : TypeId) (size : Nat) (cells : α → List Value) (g : Nat) (L : List (List UInt8 × Value)) (rows : List UInt8 → List α) (bad : List UInt8 → Prop) (F : List Nat) : As :=
 ⟨g :: F, fun w => Fam w base e size cells g L rows bad F, fun h hb => hb.keep h⟩
theorem Fam.new (hm : Mp w g []) (base : Nat) (e : TypeId) (size : Nat) (cells : α → List Value) : Fam w base e size cells g [] (fun _ => []) (fun _ => False) [] :=
 ⟨hm, by simp, fun k _ => ⟨⟨by simp [AH], .inl ⟨by simp [FK, CU], rfl⟩⟩, fun b hb => by simp [FK, CU, Value.ownBlock] at hb⟩, fun k k' b _ _ hb => by simp [FK, CU, Value.ownBlock] at hb⟩
theorem Mem.split2 {a b c : As} (M : Mem w0 S (c :: Ls) w) (ha : a.ok w) (hb : b.ok w) (hfa : ∀ x ∈ a.fp, x ∈ c.fp) (hfb : ∀ x ∈ b.fp, x ∈ c.fp) (hab : ∀ x ∈ a.fp, x ∉ b.fp) : Mem w0 S (a :: b :: Ls) w := by
 have rest : ∀ (i : Nat) (d : As), (a :: b :: Ls)[i + 2]? = some d → (c :: Ls)[i + 1]? = some d := fun i d h => h
 refine ⟨M.fr, ?_, ?_, ?_⟩
 ·intro i d hi
  match i with
  | 0 => simp only [List.getElem?_cons_zero, Option.some.injEq] at hi; subst hi; exact ha
  | 1 => simp only [List.getElem?_cons_succ, List.getElem?_cons_zero, Option.some.injEq] at hi; subst hi; exact hb
  | i + 2 => exact M.ok (i + 1) d (rest i d hi)
 ·intro i d hi x hx
  match i with
  | 0 => simp only [List.getElem?_cons_zero, Option.some.injEq] at hi; subst hi; exact M.lt 0 c rfl x (hfa x hx)
  | 1 => simp only [List.getElem?_cons_succ, List.getElem?_cons_zero, Option.some.injEq] at hi; subst hi; exact M.lt 0 c rfl x (hfb x hx)
  | i + 2 => exact M.lt (i + 1) d (rest i d hi) x hx
 ·intro i j d d' hi hj hne x hx hx'
  match i, j with
  | 0, 0 => exact hne rfl
  | 1, 1 => exact hne rfl
  | 0, 1 =>
   simp only [List.getElem?_cons_succ, List.getElem?_cons_zero, Option.some.injEq] at hi hj; subst hi; subst hj
   exact hab x hx hx'
  | 1, 0 =>
   simp only [List.getElem?_cons_succ, List.getElem?_cons_zero, Option.some.injEq] at hi hj; subst hi; subst hj
   exact hab x hx' hx
  | 0, j + 2 =>
   simp only [List.getElem?_cons_zero, Option.some.injEq] at hi; subst hi
   exact M.apart 0 (j + 1) c d' rfl (rest j d' hj) (by omega) x (hfa x hx) hx'
  | 1, j + 2 =>
   simp only [List.getElem?_cons_succ, List.getElem?_cons_zero, Option.some.injEq] at hi; subst hi
   exact M.apart 0 (j + 1) c d' rfl (rest j d' hj) (by omega) x (hfb x hx) hx'
  | i + 2, 0 =>
   simp only [List.getElem?_cons_zero, Option.some.injEq] at hj; subst hj
   exact M.apart (i + 1) 0 d c (rest i d hi) rfl (by omega) x hx (hfa x hx')
  | i + 2, 1 =>
   simp only [List.getElem?_cons_succ, List.getElem?_cons_zero, Option.some.injEq] at hj; subst hj
   exact M.apart (i + 1) 0 d c (rest i d hi) rfl (by omega) x hx (hfb x hx')
  | i + 2, j + 2 => exact M.apart (i + 1) (j + 1) d d' (rest i d hi) (rest j d' hj) (by omega) x hx hx'
theorem Mem.joinFam {a b : As} (M : Mem w0 S (a :: b :: Ls) w) (c : As) (hok : c.ok w) (hfp : ∀ x ∈ c.fp, x ∈ a.fp ∨ x ∈ b.fp) : Mem w0 S (c :: Ls) w := by
 have rest : ∀ (i : Nat) (d : As), (c :: Ls)[i + 1]? = some d → (a :: b :: Ls)[i + 2]? = some d := fun i d h => h
 have fp : ∀ k, k ∈ c.fp → ∃ (i : Nat) (d : As), i < 2 ∧ (a :: b :: Ls)[i]? = some d ∧ k ∈ d.fp := fun k hk => by
  rcases hfp k hk with h | h
  ·exact ⟨0, _, by decide, rfl, h⟩
  ·exact ⟨1, _, by decide, rfl, h⟩
 refine ⟨M.fr, ?_, ?_, ?_⟩
 ·intro i d hi
  cases i with
  | zero => simp only [List.getElem?_cons_zero, Option.some.injEq] at hi; subst hi; exact hok
  | succ i => exact M.ok (i + 2) d (rest i d hi)
 ·intro i d hi k hk
  cases i with
  | zero =>
   simp only [List.getElem?_cons_zero, Option.some.injEq] at hi; subst hi
   obtain ⟨j, f, _, h1, h2⟩ := fp k hk
   exact M.lt j f h1 k h2
  | succ i => exact M.lt (i + 2) d (rest i d hi) k hk
 ·intro i j d f hi hj hne k hk hk'
  cases i with
  | zero =>
   cases j with
   | zero => exact hne rfl
   | succ j =>
    simp only [List.getElem?_cons_zero, Option.some.injEq] at hi; subst hi
    obtain ⟨q, d', hq, h1, h2⟩ := fp k hk
    exact M.apart q (j + 2) d' f h1 (rest j f hj) (by omega) k h2 hk'
  | succ i =>
   cases j with
   | zero =>
    simp only [List.getElem?_cons_zero, Option.some.injEq] at hj; subst hj
    obtain ⟨q, d', hq, h1, h2⟩ := fp k hk'
    exact M.apart (i + 2) q d d' (rest i d hi) h1 (by omega) k hk h2
   | succ j => exact M.apart (i + 2) (j + 2) d f (rest i d hi) (rest j f hj) (by omega) k hk hk'
theorem Mem.famTake (M : Mem w0 S (As.fam base e size cells g L rows (fun _ => False) F :: Ls) w) (k0 : List UInt8) : ∃ A C F', FK L k0 = .slice A (rows k0).length C ∧ Mem w0 S (As.own base e size (.slice A (rows k0).length C) (rows k0).length (AH cells (rows k0)) :: As.fam base e size cells g L rows (fun k => k = k0) F' :: Ls) w := by
 have h : Fam w base e size cells g L rows (fun _ => False) F := M.ok 0 _ rfl
 obtain ⟨ho, hF⟩ := h.row k0 (fun hh => hh)
 obtain ⟨A, C, hv, _⟩ := E8 ho
 refine ⟨A, C, F.filter (fun b => !(decide ((FK L k0).ownBlock = some b))), hv, ?_⟩
 rw [hv] at ho
 refine M.split2 ho (show Fam w base e size cells g L rows (fun k => k = k0) _ from ⟨h.map, fun hh => h.gF (List.mem_filter.1 hh).1, fun k hk => ⟨(h.row k (fun hh => hh)).1, fun b hb => List.mem_filter.2 ⟨(h.row k (fun hh => hh)).2 b hb, ?_⟩⟩, fun k k' b _ _ hb hb' => h.apart k k' b (fun hh => hh) (fun hh => hh) hb hb'⟩) ?_ ?_ ?_
 ·simp only [Bool.not_eq_true', decide_eq_false_iff_not]
  exact fun hb' => hk (h.apart k k0 b (fun hh => hh) (fun hh => hh) hb hb')
 ·intro x hx
  have hx' : (FK L k0).ownBlock = some x := by rw [hv]; simpa [As.own] using hx
  exact List.mem_cons_of_mem _ (hF x hx')
 ·intro x hx
  rcases List.mem_cons.1 hx with rfl | hx
  ·exact List.mem_cons_self
  ·exact List.mem_cons_of_mem _ (List.mem_filter.1 hx).1
 ·intro x hx hx'
  have h1 : (FK L k0).ownBlock = some x := by rw [hv]; simpa [As.own] using hx
  rcases List.mem_cons.1 hx' with rfl | hx'
  ·exact h.gF (hF x h1)
  ·have := (List.mem_filter.1 hx').2
   simp [h1] at this
theorem Mem.famPut {k0 : List UInt8} {A : Option Addr} {n C : Nat} {row' : List α} (M : Mem w0 S (As.own base e size (.slice A n C) n (AH cells row') :: As.fam base e size cells g L rows (fun k => k = k0) F :: Ls) w) (hv : FK L k0 = .slice A n C) (hn : n = row'.length) (rows' : List UInt8 → List α) (h0 : rows' k0 = row') (h1 : ∀ k, k ≠ k0 → rows' k = rows k) :
 ∃ F', Mem w0 S (As.fam base e size cells g L rows' (fun _ => False) F' :: Ls) w := by
 have h : Fam w base e size cells g L rows (fun k => k = k0) F := M.ok 1 _ rfl
 have ho := M.own 0 rfl
 have hap : ∀ b, (FK L k0).ownBlock = some b → ¬ b ∈ g :: F := fun b hb => by
  rw [hv] at hb
  exact M.apart 0 1 _ _ rfl rfl (by decide) b (by simp [As.own, hb])
 refine ⟨(FK L k0).ownBlock.toList ++ F, M.joinFam _ (show Fam w base e size cells g L rows' (fun _ => False) _ from ⟨h.map, ?_, ?_, ?_⟩) ?_⟩
 ·intro hh
  rcases List.mem_append.1 hh with hh | hh
  ·exact hap g (by simpa using hh) List.mem_cons_self
  ·exact h.gF hh
 ·intro k _
  by_cases hk : k = k0
  ·subst hk
   rw [h0, hv, ← hn]
   exact ⟨ho, fun b hb => List.mem_append_left _ (by simpa using hb)⟩
  ·rw [h1 k hk]
   exact ⟨(h.row k hk).1, fun b hb => List.mem_append_right _ ((h.row k hk).2 b hb)⟩
 ·intro k k' b _ _ hb hb'
  by_cases hk : k = k0
  ·by_cases hk' : k' = k0
   ·rw [hk, hk']
   ·subst hk; exact absurd (List.mem_cons_of_mem _ ((h.row k' hk').2 b hb')) (hap b hb)
  ·by_cases hk' : k' = k0
   ·subst hk'; exact absurd (List.mem_cons_of_mem _ ((h.row k hk).2 b hb)) (hap b hb')
   ·exact h.apart k k' b hk hk' hb hb'
 ·intro x hx
  rcases List.mem_cons.1 (show x ∈ g :: ((FK L k0).ownBlock.toList ++ F) from hx) with rfl | hx
  ·exact .inr List.mem_cons_self
  ·rcases List.mem_append.1 hx with hx | hx
   ·left; rw [hv] at hx; simpa [As.own] using hx
   ·exact .inr (List.mem_cons_of_mem _ hx)
theorem Mem.putFam {k0 : List UInt8} {v : Value} (M : Mem w0 S Ls w) (i : Nat) (hi : Ls[i]? = some (As.fam base e size cells g L rows (fun k => k = k0) F)) (hf : Fr (fun b => b = g) w w') (hb : Mp w' g (DN L k0 v)) : Mem w0 S (Ls.set i (As.fam base e size cells g (DN L k0 v) rows (fun k => k = k0) F)) w' := by
 have h : Fam w base e size cells g L rows (fun k => k = k0) F := M.ok i _ hi
 refine M.upd i hi (hf.mono fun k _ e => by rw [e]; exact List.mem_cons_self) _ (show Fam w' base e size cells g (DN L k0 v) rows (fun k => k = k0) F from ⟨hb, h.gF, fun k hk => ?_, fun k k' b hk hk' h1 h2 => ?_⟩) (fun g' hg' => .inl hg')
 ·rw [JE, if_neg hk]
  exact ⟨WD (h.row k hk).1 (fun b hb' hl => hf.block b hl (fun hh => h.gF (hh ▸ (h.row k hk).2 b hb'))), (h.row k hk).2⟩
 ·rw [JE, if_neg hk] at h1
  rw [JE, if_neg hk'] at h2
  exact h.apart k k' b hk hk' h1 h2
theorem Mem.famMp (M : Mem w0 S Ls w) (i : Nat) (hi : Ls[i]? = some (As.fam base e size cells g L rows bad F)) : Mp w g L := Fam.map (M.ok i _ hi)
end
end
open Go.ChangeShapes Go.WideShapes Go.ChangeAt Go.RowKit Go.Deep
section
section
variable {H : Type} {enc : TypeId × Value → H} {P : Program} {w : World}
def XR (enc : TypeId × Value → H) (P : Program) (w : World) (t : TypeId) (r : List Value) (d : DataW H) : Prop := ∃ n p, DataW.trod enc P w 0 (fun _ => true) true n t r = some (d, p)
theorem OJ {t e sz len cap fuel : Nat} {A : Option Addr} {x : DataW H × List MemPlace} (ht : P.underlying t = some (.slice e)) (hc : P.cellsOf e = sz) (hpos : 0 < sz)
 (h : DataW.trod enc P w 0 (fun _ => true) true fuel t [.slice A len cap] = some x) :
 ∃ (rows : List (List Value)) (D : List (DataW H)), rows.length = len ∧ D.length = len ∧ All sz rows ∧ Rd w A (len * sz) rows.flatten ∧ len ≤ cap ∧ cap ≤ maxLen ∧ (A = none → cap = 0) ∧
  (∀ (i : Nat) (r : List Value), rows[i]? = some r → ∃ d, D[i]? = some d ∧ XR enc P w e r d) ∧ ((x.1 = .nil ∧ len = 0 ∧ cap = 0) ∨ ∃ sp, x.1 = .slice D sp ∧ sp.length = cap - len) := by
 rcases open_slice ht h with ⟨hcs, rfl⟩ | ⟨a, len', cap', m, n, D, Pl, hcs, _, hl, hm, hmm, rfl, hx⟩
 ·simp only [List.cons.injEq, Value.slice.injEq, and_true] at hcs
  obtain ⟨rfl, rfl, rfl⟩ := hcs
  exact ⟨[], [], rfl, rfl, All.nil, by rw [Nat.zero_mul]; exact Rd.nil, Nat.le_refl _, Nat.zero_le _, fun _ => rfl, fun i r hr => by simp at hr, .inl ⟨rfl, rfl, rfl⟩⟩
 ·simp only [List.cons.injEq, Value.slice.injEq, and_true] at hcs
  obtain ⟨rfl, rfl, rfl⟩ := hcs
  simp only [if_true] at hmm
  subst hmm
  obtain ⟨C, hC⟩ := choose_lt (α := List Value) (p := fun i cs => w.cells? 0 (a.add (i * P.cellsOf e)) (P.cellsOf e) = some cs ∧ DataW.trod enc P w 0 (fun _ => true) true n e cs = some (D i, Pl i)) (fun i hi => hx i hi)
  rw [hc] at hC
  have hrow : ∀ i, i < len → (C i).length = sz := fun i hi => (World.cells?_some (hC i (by omega)).1).2.1
  have hall : All sz ((List.range len).map C) := by
   intro r hr
   obtain ⟨i, hi, rfl⟩ := List.mem_map.1 hr
   exact hrow i (List.mem_range.1 hi)
  refine ⟨(List.range len).map C, (List.range len).map D, by simp, by simp, hall, ⟨by rw [MC hall]; simp, fun h0 => ?_⟩, hl, hm, by simp, ?_, .inr ⟨_, rfl, by simp⟩⟩
  ·have hlen : 0 < len := Nat.pos_of_mul_pos_right h0
   obtain ⟨b, off, sp⟩ := a
   have hsp : sp = none := by
    have h1 := (World.cells?_some (hC 0 (by omega)).1).2.2 0 hpos
    have h2 := (World.cells?_some (hC 0 (by omega)).1).2.1
    rw [List.getElem?_eq_getElem (by omega)] at h1
    cases sp with
    | none => rfl
    | some s =>
     exfalso
     simp only [Nat.zero_mul, Addr.add, if_true, World.cell?] at h1
     split at h1 <;> simp at h1
   subst hsp
   refine ⟨b, off, rfl, fun j u hu => ?_⟩
   have hj : j < len * sz := by have := (List.getElem?_eq_some_iff.1 hu).1; rw [MC hall] at this; simpa using this
   have hi : j / sz < len := Nat.div_lt_of_lt_mul (by rw [Nat.mul_comm]; exact hj)
   have hjm : j % sz < sz := Nat.mod_lt _ hpos
   have hat := ZZ hall (i := j / sz) (x := C (j / sz)) (by rw [List.getElem?_map, List.getElem?_range hi]; rfl)
   have hcell := (World.cells?_some (hC (j / sz) (by omega)).1).2.2 (j % sz) hjm
   rw [← hat, List.getElem?_take_of_lt hjm, List.getElem?_drop] at hcell
   have e1 : j / sz * sz + j % sz = j := by rw [Nat.mul_comm]; exact Nat.div_add_mod j sz
   rw [e1, hu, Addr.add_mid, Addr.add_mid, Nat.add_assoc, e1] at hcell
   exact hcell
  ·intro i r hr
   have hi : i < len := by have := (List.getElem?_eq_some_iff.1 hr).1; simpa using this
   rw [List.getElem?_map, List.getElem?_range hi] at hr
   simp only [Option.map_some, Option.some.injEq] at hr
   subst hr
   exact ⟨D i, by rw [List.getElem?_map, List.getElem?_range hi]; rfl, n, _, (hC i (by omega)).2⟩
theorem VS {n : Int} (h : (Lit.int .u8 n).wf = true) : Value.int .u8 n = bv (UInt8.ofNat n.toNat) := by
 have hb := bounds_u8 h
 unfold bv
 congr 1
 rw [UInt8.toNat_ofNat']
 omega
end
end
theorem VL {H : Type} {enc : TypeId × Value → H} {C : Checked} {os : Os} {f : FuncId} {fn : Func} {s : OpenSpec} {conds : List PathCond} {apart : Bool} {laid : List (String × DataW Unit)} (modest : Bool) (w0 : World) (args : Array Value) (hos : w0.os = os)
 (hv : (w0.forCall (fun _ _ => 0) ⟨#[], args, []⟩).variablesZipB C.prog = true)
 (hr : ((w0.forCall (fun _ _ => 0) ⟨#[], args, []⟩).heap.toList.drop C.prog.globals.size).take ((begin C.prog (fun _ _ => 0) default).world.heap.size - C.prog.globals.size) =
  (begin C.prog (fun _ _ => 0) default).world.heap.toList.drop C.prog.globals.size)
 (hok : Input.okWideB C.prog (w0.forCall (fun _ _ => 0) ⟨#[], args, []⟩) f ⟨#[], args, []⟩ = true)
 (hrow : s.preRow enc C.prog fn conds apart laid (w0.forCall (fun _ _ => 0) ⟨#[], args, []⟩).memory args) :
 ∃ (w : World) (tape : Tape) (i : Input), w.os = os ∧ (w.forCall tape i).Shaped C.prog ∧ i.vars = [] ∧ Input.okWide C.prog (w.forCall tape i) .any w.heap.size f i ∧
  s.preRow enc C.prog fn conds apart laid (w.forCall tape i).memory i.args ∧ ({ modest := modest } : Assume).holds C.prog (lone (Frame.enter C.prog f i.args .normal) [] (w.forCall tape i)) :=
 ⟨w0, fun _ _ => 0, ⟨#[], args, []⟩, hos, World.shaped_of_ZipB hv hr, (Input.okWide_of_okWideB (base := 0) hok).1, (Input.okWide_of_okWideB hok).2, hrow, by
  simp only [Assume.holds]
  exact ⟨by simp, by simp, fun _ => Modest.zero, by simp, by simp⟩⟩
open Go.RowKit Go.Shelf
open Tryz
def sE : Ren := ⟨fun n => if n = 196 then 153 else 173,
 fun n => if n = 0 then 0 else if n = 3 then 3 else if n = 4 then 4 else if n = 5 then 5 else if n = 9 then 9 else if n = 12 then 12 else if n = 46 then 225 else if n = 53 then 231 else if n = 119 then 176 else if n = 138 then 223 else 224,
 fun n => if n = 3 then 0 else 1⟩
theorem rH : Lays.n196 prog sE where
 mixed := CZ
 f196 := by kernel_rfl
 f259 := by kernel_rfl
 t0 := underlying0
 a0 := isAgg0
 z0 := sizeOf0
 v0 := zeroValue0
 t3 := underlying3
 a3 := isAgg3
 z3 := sizeOf3
 v3 := zeroValue3
 t4 := underlying4
 a4 := isAgg4
 z4 := sizeOf4
 v4 := zeroValue4
 t5 := underlying5
 a5 := isAgg5
 z5 := sizeOf5
 v5 := zeroValue5
 t9 := underlying9
 a9 := isAgg9
 z9 := sizeOf9
 v9 := zeroValue9
 t12 := underlying12
 a12 := isAgg12
 z12 := sizeOf12
 v12 := zeroValue12
 t46 := underlying225
 a46 := isAgg225
 z46 := sizeOf225
 v46 := zeroValue225
 t53 := underlying231
 a53 := isAgg231
 z53 := sizeOf231
 v53 := zeroValue231
 t119 := underlying176
 a119 := isAgg176
 z119 := sizeOf176
 t138 := underlying223
 a138 := isAgg223
 z138 := sizeOf223
 v138 := zeroValue223
 t139 := underlying224
 a139 := isAgg224
 z139 := sizeOf224
 v139 := zeroValue224
 g3 := by kernel_rfl
 g4 := by kernel_rfl
theorem YL : (firstZ.map fun z => Value.int .u8 z) = (List.range 256).map fun c => Value.int .u8 (Go.Lib.firstT c : Int) := by kernel_rfl
theorem W5 : (pairsZ.flatMap fun z => [Value.int .u8 z.1, Value.int .u8 z.2]) = (List.range 32).map fun j => Value.int .u8 (if j % 2 = 0 then (Go.Lib.accLo (j / 2) : Int) else (Go.Lib.accHi (j / 2) : Int)) := by kernel_rfl
theorem Laid.tabs {w : World} (h : Laid w utfL) : Go.Lib.Utf8Tabs 0 1 w := by
 obtain ⟨el, fz, h1⟩ := h _ (List.mem_cons_self)
 obtain ⟨el', fz', h2⟩ := h _ (List.mem_cons_of_mem _ List.mem_cons_self)
 simp only at h1 h2
 rw [YL] at h1
 rw [W5] at h2
 refine ⟨fun c hc => ?_, fun i hi => ⟨?_, ?_⟩⟩
 ·simp [World.cell?, h1, hc]
 ·have e1 : 2 * i % 2 = 0 := by omega
  have e2 : 2 * i / 2 = i := by omega
  have e3 : 2 * i < 32 := by omega
  simp [World.cell?, h2, e1, e2, e3]
 ·have e1 : (2 * i + 1) % 2 = 1 := by omega
  have e2 : (2 * i + 1) / 2 = i := by omega
  have e3 : 2 * i + 1 < 32 := by omega
  simp [World.cell?, h2, e1, e2, e3]
theorem Laid.fr {w w' : World} {L : List (Nat × List Value)} (h : Laid w L) (hf : Fr0 w w') : Laid w' L := fun p hp => by
 obtain ⟨el, fz, h1⟩ := h p hp
 exact ⟨el, fz, (hf.block _ (Array.getElem?_eq_some_iff.1 h1).1 (fun hh => hh)).trans h1⟩
theorem Fr0.of_below {w w' : World} (h : Below w.heap.size w w') : Fr0 w w' := ⟨h.os, h.tape, h.output, h.size, fun k hk _ => h.block k hk⟩
theorem eQ (l : List UInt8) (w : World) (hm : (l.length : Int) < 4611686018427387904) (hT : Laid w utfL) : Calls prog 153 #[str l] w fun e w' => e = .returned (.bool (utf l)) ∧ Fr0 w w' := by
 have hs : (ByteArray.mk l.toArray).size = l.length := by show l.toArray.size = _; simp
 have h := Any.utf8_ValidString rH ⟨l.toArray⟩ w (by omega) hT.tabs
 refine h.mono fun e w' ⟨he, hb⟩ => ⟨?_, Fr0.of_below hb⟩
 rw [he]
 have : (ByteArray.mk l.toArray).data.toList = l := rfl
 rw [this, XW l.length l (Nat.le_refl _)]
theorem KP (l : List UInt8) (w : World) (hm : (l.length : Int) < 4611686018427387904) (hT : Laid w utfL) : Calls prog 123 #[str l] w fun e w' => e = .returned (.bool (utf l)) ∧ Fr0 w w' := by
 refine BE (vs := [_]) func123 rfl ntmps123 rfl (srg (yb rfl (nq (srg (yb rfl (B3 (some 4) (by first | exact AA rfl | exact BG rfl rfl rfl) rfl rfl (AP rfl rfl call153) (eQ l _ hm hT) ?_))))))
 rintro _ w1 ⟨rfl, hf1⟩
 exact ⟨_, rfl, yb rfl (nq (BN (CQ rfl rfl ⟨rfl, hf1⟩)))⟩
def vOk (v : Vl) : Bool := if v.kind = 1 then (!v.bool && decide (v.text = [])) else if v.kind = 2 then (decide (v.int = 0) && decide (v.text = [])) else if v.kind = 3 then (decide (v.int = 0) && (!v.bool && (decide (v.text.length ≤ 1024) && utf v.text))) else false
def chk (v : Vl) : Int := if vOk v then 0 else 1
theorem kL {v : Vl} (h : vOk v = true) : chk v = 0 := by unfold chk; rw [h]; rfl
theorem U0 {v : Vl} (h : vOk v = false) : chk v = 1 := by unfold chk; rw [h]; rfl
theorem US {k : UInt8} {n : Nat} (h : k ≠ UInt8.ofNat n) : (k.toNat : Int) ≠ n := fun e => h (by
 have : k.toNat = n := by omega
 rw [← this]; simp)
theorem FR (v : Vl) (w : World) (hm : (v.text.length : Int) < 4611686018427387904) (hT : Laid w utfL) : Calls prog 65 #[v.val] w fun e w' => e = .returned (.int .i64 (chk v)) ∧ Fr0 w w' := by
 refine BE (vs := [_]) func65 rfl ntmps65 rfl (srg (CH (some 1) (AA rfl) rfl rfl (fun ρ hρ => X7 45 (.tmp 0) rfl v.cells (by rw [hρ _ _ rfl]; rfl)) ?_))
 rintro _ w1 ⟨g, rfl, hg1, hg2, hb, hf⟩
 have c0 : Cell w1.heap g 0 (.int .u8 (v.kind.toNat : Int)) := hb.c 0 rfl
 have c1 : Cell w1.heap g 1 (.int .i64 v.int) := hb.c 1 rfl
 have c2 : Cell w1.heap g 2 (.bool v.bool) := hb.c 2 rfl
 have c3 : Cell w1.heap g 3 (str v.text) := hb.c 3 rfl
 have hrd : Rd w1 (some ⟨g, 0, none⟩) 4 v.cells := Rd.ofBlk hb rfl
 have hk := v.kind.toNat_lt
 by_cases k1 : v.kind = 1
 ·have k1' : (v.kind.toNat : Int) = 1 := by rw [k1]; rfl
  refine yb rfl (nq (srg (yb rfl (nq (AF (srg (yb rfl (yl rfl rfl (by assumption) (nq (AS ?_))))))))))
  refine srg (ya rfl (MN rfl rfl rfl (by omega)) (yb rfl (nq (EL rfl (CV 5 (fun w' => Rd w' (some ⟨g, 0, none⟩) 4 v.cells ∧ Cell w'.heap g 1 (.int .i64 v.int)) CZ ?_)))))
  have HS : Rd w1.drew (some ⟨g, 0, none⟩) 4 v.cells ∧ Cell w1.drew.heap g 1 (.int .i64 v.int) := ⟨hrd, c1⟩
  refine oa 0 3 rfl rfl HS (fun w' hS' => AU rfl rfl hS'.1 underlying45 rfl FW) (oa 1 3 rfl rfl HS (fun w' hS' => yp rfl) (oa 2 3 rfl rfl HS (fun w' hS' => BW rfl rfl (sc rfl) (by obtain ⟨s1, s2⟩ := hS'; assumption)) (C7 3 (some 11) (by kernel_rfl) rfl (AA rfl) rfl rfl (AP rfl rfl call120) (PH v.int _) ?_)))
  rintro _ w2 ⟨rfl, hf2⟩
  have HS : Rd w2 (some ⟨g, 0, none⟩) 4 v.cells ∧ Cell w2.heap g 1 (.int .i64 v.int) := ⟨hrd.fr0 hf2.ofDrew, c1.fr hf2.ofDrew (fun hh => hh)⟩
  refine ⟨_, rfl, fun _ => HS, ?_⟩
  refine DW 4 (by kernel_rfl) rfl (AA rfl) rfl rfl (U7 rfl rfl rfl) HS (OC 5 (by kernel_rfl) rfl rfl (by kernel_rfl) ?_)
  have hsm : v.same ⟨1, v.int, false, []⟩ = vOk v := by
   unfold Vl.same vOk
   rw [if_pos k1, k1]
   cases v.bool <;> simp
  refine yb rfl (AR (AE (AD (AF (srg (yb rfl (yb rfl (nq ?_))))))))
  rw [hsm]
  cases hv : vOk v with
  | true =>
   exact D8 rfl (AI (AD (srg (yb rfl (nq (BN (CQ rfl rfl ⟨by rw [kL hv], hf.trans hf2.ofDrew⟩)))))))
  | false =>
   exact EL rfl (srg (yb rfl (nq (BN (AB (CQ rfl rfl ⟨by rw [U0 hv], hf.trans hf2.ofDrew⟩))))))
 by_cases k2 : v.kind = 2
 ·have k1' : (v.kind.toNat : Int) ≠ 1 := by rw [k2]; decide
  have k2' : (v.kind.toNat : Int) = 2 := by rw [k2]; rfl
  refine yb rfl (nq (srg (yb rfl (nq (AF (srg (yb rfl (yl rfl rfl (by assumption) (nq (AS ?_))))))))))
  refine srg (ya rfl (IB rfl rfl rfl (by omega)) (yb rfl (nq (D8 rfl (srg (ya rfl (MN rfl rfl rfl (by omega)) (yb rfl (nq (EL rfl (CV 5 (fun w' => Rd w' (some ⟨g, 0, none⟩) 4 v.cells ∧ Cell w'.heap g 2 (.bool v.bool)) CZ ?_))))))))))
  have HS : Rd w1.drew (some ⟨g, 0, none⟩) 4 v.cells ∧ Cell w1.drew.heap g 2 (.bool v.bool) := ⟨hrd, c2⟩
  refine oa 0 3 rfl rfl HS (fun w' hS' => AU rfl rfl hS'.1 underlying45 rfl FW) (oa 1 3 rfl rfl HS (fun w' hS' => yp rfl) (oa 2 3 rfl rfl HS (fun w' hS' => BW rfl rfl (sc rfl) (by obtain ⟨s1, s2⟩ := hS'; assumption)) (C7 3 (some 18) (by kernel_rfl) rfl (AA rfl) rfl rfl (AP rfl rfl call121) (O9 v.bool _) ?_)))
  rintro _ w2 ⟨rfl, hf2⟩
  have HS : Rd w2 (some ⟨g, 0, none⟩) 4 v.cells ∧ Cell w2.heap g 2 (.bool v.bool) := ⟨hrd.fr0 hf2.ofDrew, c2.fr hf2.ofDrew (fun hh => hh)⟩
  refine ⟨_, rfl, fun _ => HS, ?_⟩
  refine DW 4 (by kernel_rfl) rfl (AA rfl) rfl rfl (U7 rfl rfl rfl) HS (OC 5 (by kernel_rfl) rfl rfl (by kernel_rfl) ?_)
  have hsm : v.same ⟨2, 0, v.bool, []⟩ = vOk v := by
   unfold Vl.same vOk
   rw [if_neg k1, if_pos k2, k2]
   simp
  refine yb rfl (AR (AE (AD (AF (srg (yb rfl (yb rfl (nq ?_))))))))
  rw [hsm]
  cases hv : vOk v with
  | true =>
   exact D8 rfl (AI (AD (srg (yb rfl (nq (BN (CQ rfl rfl ⟨by rw [kL hv], hf.trans hf2.ofDrew⟩)))))))
  | false =>
   exact EL rfl (srg (yb rfl (nq (BN (AB (CQ rfl rfl ⟨by rw [U0 hv], hf.trans hf2.ofDrew⟩))))))
 have k1' : (v.kind.toNat : Int) ≠ 1 := US (n := 1) k1
 have k2' : (v.kind.toNat : Int) ≠ 2 := US (n := 2) k2
 by_cases k3 : v.kind = 3
 ·have k3' : (v.kind.toNat : Int) = 3 := by rw [k3]; rfl
  refine yb rfl (nq (srg (yb rfl (nq (AF (srg (yb rfl (yl rfl rfl (by assumption) (nq (AS ?_))))))))))
  refine srg (ya rfl (IB rfl rfl rfl (by omega)) (yb rfl (nq (D8 rfl (srg (ya rfl (IB rfl rfl rfl (by omega)) (yb rfl (nq (D8 rfl (srg ?_))))))))))
  refine ya rfl (MN rfl rfl rfl (by omega)) (yb rfl (nq (EL rfl (CV 16 (fun w' => Rd w' (some ⟨g, 0, none⟩) 4 v.cells ∧ Cell w'.heap g 3 (str v.text)) CZ ?_))))
  have HS : Rd w1.drew (some ⟨g, 0, none⟩) 4 v.cells ∧ Cell w1.drew.heap g 3 (str v.text) := ⟨hrd, c3⟩
  refine oa 0 3 rfl rfl HS (fun w' hS' => AU rfl rfl hS'.1 underlying45 rfl FW) (oa 1 3 rfl rfl HS (fun w' hS' => yp rfl) (oa 2 3 rfl rfl HS (fun w' hS' => BW rfl rfl (sc rfl) (by obtain ⟨s1, s2⟩ := hS'; assumption)) (C7 3 (some 25) (by kernel_rfl) rfl (AA rfl) rfl rfl (AP rfl rfl call122) (VJ v.text _) ?_)))
  rintro _ w2 ⟨rfl, hf2⟩
  have c3' : Cell w2.heap g 3 (str v.text) := c3.fr hf2.ofDrew (fun hh => hh)
  have HS : Rd w2 (some ⟨g, 0, none⟩) 4 v.cells ∧ Cell w2.heap g 3 (str v.text) := ⟨hrd.fr0 hf2.ofDrew, c3'⟩
  refine ⟨_, rfl, fun _ => HS, ?_⟩
  have hw2 : Fr0 w w2 := hf.trans hf2.ofDrew
  have hsm : v.same ⟨3, 0, false, v.text⟩ = (decide (v.int = 0) && !v.bool) := by
   unfold Vl.same
   rw [k3]
   cases v.bool <;> simp
  have hvk : vOk v = ((decide (v.int = 0) && !v.bool) && (decide (v.text.length ≤ 1024) && utf v.text)) := by
   unfold vOk
   rw [if_neg k1, if_neg k2, if_pos k3, Bool.and_assoc]
  refine DW 4 (by kernel_rfl) rfl (AA rfl) rfl rfl (U7 rfl rfl rfl) HS ?_
  rw [hsm]
  cases ha : (decide (v.int = 0) && !v.bool) with
  | false =>
   have hv : vOk v = false := by rw [hvk, ha]; rfl
   refine DW 5 (by kernel_rfl) rfl (AA rfl) rfl rfl (yp rfl) HS (GU 6 (by kernel_rfl) rfl rfl rfl rfl rfl rfl rfl HS (GU 7 (by kernel_rfl) rfl rfl rfl rfl rfl rfl rfl HS (GU 8 (by kernel_rfl) rfl rfl rfl rfl rfl rfl rfl HS (GU 9 (by kernel_rfl) rfl rfl rfl rfl rfl rfl rfl HS (DW 10 (by kernel_rfl) rfl (AA rfl) rfl rfl (yp rfl) HS (DW 11 (by kernel_rfl) rfl (AA rfl) rfl rfl (yp rfl) HS (GU 12 (by kernel_rfl) rfl rfl rfl rfl rfl rfl rfl HS (GU 13 (by kernel_rfl) rfl rfl rfl rfl rfl rfl rfl HS (GU 14 (by kernel_rfl) rfl rfl rfl rfl rfl rfl rfl HS (DW 15 (by kernel_rfl) rfl (AA rfl) rfl rfl (yp rfl) HS (OC 16 (by kernel_rfl) rfl rfl (by kernel_rfl) (yb rfl (AR (AE (AD ?_)))))))))))))))
   refine AF (srg (yb rfl (yb rfl (nq (EL rfl (srg (yb rfl (nq (BN (AB (CQ rfl rfl ?_)))))))))))
   exact ⟨by rw [U0 hv], hw2⟩
  | true =>
   by_cases hl : v.text.length ≤ 1024
   ·skip
    refine DW 5 (by kernel_rfl) rfl (AA rfl) rfl rfl (yp rfl) HS (DW 6 (by kernel_rfl) rfl (BG rfl rfl rfl) rfl rfl (yp rfl) HS (DW 7 (by kernel_rfl) rfl (BG rfl rfl rfl) rfl rfl (BW rfl rfl (sc rfl) (by assumption)) HS (DW 8 (by kernel_rfl) rfl (BG rfl rfl rfl) rfl rfl (GA rfl rfl underlying9) HS (DW 9 (by kernel_rfl) rfl (BG rfl rfl rfl) rfl rfl (lE rfl rfl rfl (by omega)) HS (DW 10 (by kernel_rfl) rfl (AA rfl) rfl rfl (yp rfl) HS (DW 11 (by kernel_rfl) rfl (AA rfl) rfl rfl (yp rfl) HS (DW 12 (by kernel_rfl) rfl (BG rfl rfl rfl) rfl rfl (yp rfl) HS (DW 13 (by kernel_rfl) rfl (BG rfl rfl rfl) rfl rfl (BW rfl rfl (sc rfl) (by assumption)) HS (C7 14 (some 36) (by kernel_rfl) rfl (BG rfl rfl rfl) rfl rfl (AP rfl rfl call123) (KP v.text _ hm (hT.fr hw2)) ?_)))))))))
    rintro _ w3 ⟨rfl, hf3⟩
    have HS : Rd w3 (some ⟨g, 0, none⟩) 4 v.cells ∧ Cell w3.heap g 3 (str v.text) := ⟨(hrd.fr0 hf2.ofDrew).fr0 hf3, c3'.fr hf3 (fun hh => hh)⟩
    refine ⟨_, rfl, fun _ => HS, ?_⟩
    have hv : vOk v = utf v.text := by rw [hvk, ha]; simp [hl]
    rw [← hv]
    refine DW 15 (by kernel_rfl) rfl (AA rfl) rfl rfl (yp rfl) HS (OC 16 (by kernel_rfl) rfl rfl (by kernel_rfl) (yb rfl (AR (AE (AD (AF (srg (yb rfl (yb rfl (nq ?_))))))))))
    cases hq : vOk v with
    | true =>
     exact D8 rfl (AI (AD (srg (yb rfl (nq (BN (CQ rfl rfl ⟨by rw [kL hq], hw2.trans hf3⟩)))))))
    | false =>
     exact EL rfl (srg (yb rfl (nq (BN (AB (CQ rfl rfl ⟨by rw [U0 hq], hw2.trans hf3⟩))))))
   ·have hv : vOk v = false := by rw [hvk, ha]; simp [hl]
    refine DW 5 (by kernel_rfl) rfl (AA rfl) rfl rfl (yp rfl) HS (DW 6 (by kernel_rfl) rfl (BG rfl rfl rfl) rfl rfl (yp rfl) HS (DW 7 (by kernel_rfl) rfl (BG rfl rfl rfl) rfl rfl (BW rfl rfl (sc rfl) (by assumption)) HS (DW 8 (by kernel_rfl) rfl (BG rfl rfl rfl) rfl rfl (GA rfl rfl underlying9) HS (DW 9 (by kernel_rfl) rfl (BG rfl rfl rfl) rfl rfl (lF rfl rfl rfl (by omega)) HS (DW 10 (by kernel_rfl) rfl (AA rfl) rfl rfl (yp rfl) HS (DW 11 (by kernel_rfl) rfl (AA rfl) rfl rfl (yp rfl) HS (GU 12 (by kernel_rfl) rfl rfl rfl rfl rfl rfl rfl HS (GU 13 (by kernel_rfl) rfl rfl rfl rfl rfl rfl rfl HS (GU 14 (by kernel_rfl) rfl rfl rfl rfl rfl rfl rfl HS (DW 15 (by kernel_rfl) rfl (AA rfl) rfl rfl (yp rfl) HS (OC 16 (by kernel_rfl) rfl rfl (by kernel_rfl) (yb rfl (AR (AE (AD ?_)))))))))))))))
    refine AF (srg (yb rfl (yb rfl (nq (EL rfl (srg (yb rfl (nq (BN (AB (CQ rfl rfl ?_)))))))))))
    exact ⟨by rw [U0 hv], hw2⟩
 ·have k3' : (v.kind.toNat : Int) ≠ 3 := US (n := 3) k3
  have hv : vOk v = false := by unfold vOk; rw [if_neg k1, if_neg k2, if_neg k3]
  refine yb rfl (nq (srg (yb rfl (nq (AF (srg (yb rfl (yl rfl rfl (by assumption) (nq (AS ?_))))))))))
  refine srg (ya rfl (IB rfl rfl rfl (by omega)) (yb rfl (nq (D8 rfl (srg (ya rfl (IB rfl rfl rfl (by omega)) (yb rfl (nq (D8 rfl (srg ?_))))))))))
  refine ya rfl (IB rfl rfl rfl (by omega)) (yb rfl (nq (D8 rfl (AI (AE (AD (AF (srg (yb rfl (yb rfl (nq (EL rfl ?_))))))))))))
  exact srg (yb rfl (nq (BN (AB (CQ rfl rfl ⟨by rw [U0 hv], hf⟩)))))
theorem R9 : tabL.length = 256 := by unfold tabL; simp
theorem f9 : ∀ u ∈ tabL, u.oneCell' = true := by
 intro u hu
 obtain ⟨n, _, rfl⟩ := List.mem_map.1 hu
 rfl
theorem m3 {n : Nat} (h : n < 256) : tabL[n]? = some (.int .u8 (tabN n : Int)) := by unfold tabL; simp [h]
theorem ZB (c : UInt8) : tabN c.toNat = if GF c then 2 else if LY c then 1 else 0 := by
 have h1 : (((decide (65 ≤ c.toNat) && decide (c.toNat ≤ 90)) || (decide (97 ≤ c.toNat) && decide (c.toNat ≤ 122))) = GF c) := by
  unfold GF; rw [Bool.or_comm]
 unfold tabN
 rw [h1]
 rfl
def zeroT : List Value := List.replicate 256 (.int .u8 0)
theorem XY : (prog.info? 176).map (·.zero) = some (some (.agg zeroT.toArray)) := by kernel_rfl
theorem XZ : (prog.info? 176).map (·.size) = some 256 := by kernel_rfl
def I0 (l : List UInt8) : Bool := l.all fun c => GF c || LY c
theorem OU : ∀ (i : Nat) (l : List UInt8), i ≠ 0 → JD i l = I0 l
 | _, [], _ => rfl
 | i, c :: l, h => by
  rw [JD, OU (i + 1) l (by omega), show (i != 0) = true by simp [h], Bool.and_true]
  rfl
theorem SU (c : UInt8) (l : List UInt8) : JD 0 (c :: l) = (GF c && I0 (c :: l)) := by
 rw [JD, OU 1 l (by omega)]
 show ((GF c || (LY c && (0 != 0))) && I0 l) = (GF c && ((GF c || LY c) && I0 l))
 cases GF c <;> cases LY c <;> simp
theorem T4 : zeroT.length = 256 := by unfold zeroT; rw [List.length_replicate]
theorem EI (l : List UInt8) (w : World) (hm : (l.length : Int) < 4611686018427387904) : Calls prog 67 #[str l] w fun e w' => e = .returned (.bool (CT l)) ∧ Fr0 w w' := by
 refine BE (vs := [_]) func67 rfl ntmps67 rfl ?_
 by_cases h0 : l.length = 0
 ·have hno : CT l = false := by unfold CT; simp; omega
  refine srg (yb rfl (nq (AF (srg (yb rfl (ya rfl (GA rfl rfl underlying9) (ya rfl (MN rfl rfl rfl (by omega)) (yb rfl (yo rfl (yo rfl (yo rfl (yb rfl ?_))))))))))))
  exact nq (EL rfl (srg (yb rfl (nq (BN (AB (CQ rfl rfl ⟨by rw [hno], Fr.refl⟩)))))))
 by_cases h1 : 32 < l.length
 ·have hno : CT l = false := by unfold CT; simp; omega
  refine srg (yb rfl (nq (AF (srg (yb rfl (ya rfl (GA rfl rfl underlying9) (ya rfl (IB rfl rfl rfl (by omega)) (yb rfl (yd rfl (yp rfl) (yd rfl (GA rfl rfl underlying9) (yd rfl (lH rfl rfl rfl (by omega)) (yb rfl ?_))))))))))))
  exact nq (EL rfl (srg (yb rfl (nq (BN (AB (CQ rfl rfl ⟨by rw [hno], Fr.refl⟩)))))))
 obtain ⟨c0, r0, hl⟩ : ∃ c0 r0, l = c0 :: r0 := List.exists_cons_of_ne_nil (by intro e; rw [e] at h0; exact h0 rfl)
 have hno : CT l = (GF c0 && I0 l) := by
  have : JD 0 l = (GF c0 && I0 l) := by rw [hl]; exact SU c0 r0
  unfold CT; rw [this]; simp [show 1 ≤ l.length by omega, show l.length ≤ 32 by omega]
 have hc0 : l[0]? = some c0 := by rw [hl]; rfl
 refine srg (yb rfl (nq (AF (srg (yb rfl (ya rfl (GA rfl rfl underlying9) (ya rfl (IB rfl rfl rfl (by omega)) (yb rfl (yd rfl (yp rfl) (yd rfl (GA rfl rfl underlying9) (yd rfl (lI rfl rfl rfl (by omega)) (yb rfl ?_))))))))))))
 refine nq (D8 rfl (AI (AD (srg (B3 (some 13) (by first | exact AA rfl | exact BG rfl rfl rfl) rfl rfl (AP rfl rfl call125) (Y1 _) ?_)))))
 rintro _ w1 ⟨rfl, hf1⟩
 refine ⟨_, rfl, CH (some 3) (AA rfl) rfl rfl (fun ρ hρ => D9 176 rfl _ zeroT XY rfl) ?_⟩
 rintro _ w2 ⟨g, rfl, hg1, hg2, hb, hf2⟩
 refine CH none (AA rfl) rfl rfl (fun ρ hρ => C2 176 (.tmp 3) (.tmp 13) rfl g 0 176 _ tabL (hρ _ _ rfl) (hρ _ _ rfl) hb (by rw [R9]; exact XZ) (by rw [R9, T4]; omega) f9) ?_
 rintro _ w3 ⟨rfl, hb3, hf3⟩
 rw [KV zeroT tabL (by rw [R9, T4])] at hb3
 have hf : Fr0 w w3 := (hf1.trans hf2).step hf3 (fun k hk e => by have := hf1.size; omega)
 refine nq (AF (srg (yb rfl (ya rfl (GA rfl rfl underlying9) (yb rfl (nq (AS ?_)))))))
 have tcell : ∀ c : UInt8, Cell w3.heap g (0 + ((c.toNat : Int)).toNat * 1) (.int .u8 (tabN c.toNat : Int)) := fun c => by
  have := hb3.c c.toNat (m3 c.toNat_lt)
  simpa using this
 refine G0 (fun e wr m => ∃ (i : Nat), e = [(16, .int .i64 (i : Int)), (15, .int .i64 (l.length : Int)), (3, .pointer (some ⟨g, 0, none⟩)), (0, str l)] ∧ w3 = wr ∧ i ≤ l.length ∧ I0 (l.take i) = true ∧ m = l.length - i) ⟨0, rfl, rfl, Nat.zero_le _, rfl, rfl⟩ ⟨rfl, rfl, rfl, rfl, trivial⟩ ?_
 rintro _ _ _ ⟨i, rfl, rfl, hi, hok, rfl⟩
 by_cases hlt : i < l.length
 ·obtain ⟨c, hc⟩ : ∃ c, l[i]? = some c := ⟨_, List.getElem?_eq_getElem hlt⟩
  have h256 := c.toNat_lt
  have ct := tcell c
  have hsplit : l = l.take i ++ c :: l.drop (i + 1) := by
   have h1 : l.drop i = c :: l.drop (i + 1) := by
    rw [List.drop_eq_getElem_cons hlt]
    congr 1
    rw [List.getElem?_eq_getElem hlt] at hc
    exact Option.some.inj hc
   rw [← h1, List.take_append_drop]
  have htab := ZB c
  by_cases hz : tabN c.toNat = 0
  ·have hbad : I0 l = false := by
    rw [hz] at htab
    have h3 : GF c = false := by cases hq : GF c with | false => rfl | true => rw [hq] at htab; simp at htab
    have h4 : LY c = false := by cases hq : LY c with | false => rfl | true => rw [h3, hq] at htab; simp at htab
    rw [hsplit]; unfold I0; simp [h3, h4]
   refine srg (ya rfl (Z1 rfl rfl rfl (by omega)) (nq (AF (EL rfl (AI (AD (AF (AS (srg (yb rfl (yb rfl (AR ?_))))))))))))
   refine AD (srg (yb rfl (yb rfl (ya rfl (GT rfl rfl rfl underlying9 hc) (ya rfl (FG rfl rfl rfl (ar rfl) (by omega)) (yl rfl rfl (by assumption) (ya rfl (MN rfl rfl rfl (by omega)) (nq (EL rfl (srg (yb rfl (AR ?_))))))))))))
   exact AD (BN (AN (AB (AB (AN (AB (CQ rfl rfl ⟨by rw [hno, hbad, Bool.and_false], hf⟩)))))))
  ·have hstep : I0 (l.take (i + 1)) = true := by
    have h3 : (GF c || LY c) = true := by
     cases hq : GF c with
     | true => rfl
     | false => cases hq2 : LY c with
      | true => rfl
      | false => rw [hq, hq2] at htab; simp at htab; omega
    rw [List.take_add_one, hc]
    unfold I0 at hok ⊢
    rw [List.all_append, hok]
    simpa using h3
   refine srg (ya rfl (Z1 rfl rfl rfl (by omega)) (nq (AF (EL rfl (AI (AD (AF (AS (srg (yb rfl (yb rfl (AR ?_))))))))))))
   refine AD (srg (yb rfl (yb rfl (ya rfl (GT rfl rfl rfl underlying9 hc) (ya rfl (FG rfl rfl rfl (ar rfl) (by omega)) (yl rfl rfl (by assumption) (ya rfl (IB rfl rfl rfl (by omega)) (nq (D8 rfl (AI (AE (AD (AK ?_)))))))))))))
   exact ya rfl (BO rfl rfl rfl (by omega)) (yb rfl (AR (FH [(16, .int .i64 ((i + 1 : Nat) : Int)), (15, .int .i64 (l.length : Int)), (3, .pointer (some ⟨g, 0, none⟩)), (0, str l)] (l.length - (i + 1)) ⟨i + 1, rfl, rfl, by omega, hstep, rfl⟩ (by omega) ⟨rfl, rfl, rfl, rfl, trivial⟩)))
 ·obtain rfl : i = l.length := by omega
  rw [List.take_length] at hok
  have h256 := c0.toNat_lt
  have ct := tcell c0
  have htab := ZB c0
  cases hlet : GF c0 with
  | true =>
   rw [hlet] at htab
   have h2 : tabN c0.toNat = 2 := htab
   refine srg (ya rfl (Z2 rfl rfl rfl (by omega)) (nq (AF (D8 rfl (BF (AG (AG (AV (AD (srg (yb rfl (ya rfl (GT (m := 0) rfl rfl rfl underlying9 hc0) ?_))))))))))))
   exact ya rfl (FG rfl rfl rfl (ar rfl) (by omega)) (yl rfl rfl (by assumption) (ya rfl (MN rfl rfl rfl (by omega)) (yb rfl (nq (BN (CQ rfl rfl ⟨by rw [hno, hlet, hok]; rfl, hf⟩))))))
  | false =>
   rw [hlet] at htab
   have h2 : tabN c0.toNat ≠ 2 := by rw [htab]; cases LY c0 <;> simp
   refine srg (ya rfl (Z2 rfl rfl rfl (by omega)) (nq (AF (D8 rfl (BF (AG (AG (AV (AD (srg (yb rfl (ya rfl (GT (m := 0) rfl rfl rfl underlying9 hc0) ?_))))))))))))
   exact ya rfl (FG rfl rfl rfl (ar rfl) (by omega)) (yl rfl rfl (by assumption) (ya rfl (IB rfl rfl rfl (by omega)) (yb rfl (nq (BN (CQ rfl rfl ⟨by rw [hno, hlet]; rfl, hf⟩))))))
section
inductive Xn
 | zero
 | lit (v : Vl)
 | var (s : List UInt8)
 | un (op : UInt8) (a : Xn)
 | bin (op : UInt8) (a b : Xn)
def Xn.op : Xn → UInt8
 | .zero => 0
 | .lit _ => 1
 | .var _ => 2
 | .un o _ => o
 | .bin o _ _ => o
def Xn.vl : Xn → Vl
 | .lit v => v
 | _ => zeroVl
def Xn.nm : Xn → List UInt8
 | .var s => s
 | _ => []
def Xn.nk : Xn → Nat
 | .un _ _ => 1
 | .bin _ _ _ => 2
 | _ => 0
def Xn.cells (n : Xn) (A : Option Addr) : List Value := [.int .u8 (n.op.toNat : Int), .int .u8 (n.vl.kind.toNat : Int), .int .i64 n.vl.int, .bool n.vl.bool, str n.vl.text, str n.nm, .slice A n.nk n.nk]
def Xn.leaf : Xn → Bool
 | .un _ _ => false
 | .bin _ _ _ => false
 | _ => true
theorem Xn.nk_leaf {n : Xn} (h : n.leaf = true) : n.nk = 0 := by cases n <;> first | rfl | cases h
def D2 (b : UInt8) : Bool := decide ((48 : Int) ≤ (b.toNat : Int)) && decide ((b.toNat : Int) ≤ 57)
def EX (b : UInt8) : Bool := decide ((97 : Int) ≤ ((b ||| 32).toNat : Int)) && decide (((b ||| 32).toNat : Int) ≤ 122)
def DK (b : UInt8) : Bool := EX b || D2 b || decide ((b.toNat : Int) = 45) || decide ((b.toNat : Int) = 95) || decide ((b.toNat : Int) = 46)
def signTab : List (List UInt8 × (UInt8 × Nat)) := [([111, 114], (6, 1)), ([97, 110, 100], (5, 2)), ([61], (7, 4)), ([33, 61], (8, 4)), ([60], (9, 4)), ([60, 61], (10, 4)), ([62], (11, 4)), ([62, 61], (12, 4)), ([43], (13, 5)), ([45], (14, 5)), ([42], (15, 6)), ([47], (16, 6)), ([37], (17, 6))]
def VW : List (List UInt8 × (UInt8 × Nat)) → List UInt8 → Option (UInt8 × Nat)
 | [], _ => none
 | (k', v) :: r, k => if k = k' then some v else VW r k
def AW (s : List UInt8) : Option (UInt8 × Nat) := VW signTab s
def K0 (s : List UInt8) : Bool := decide (s = [97, 110, 100]) || decide (s = [111, 114]) || decide (s = [110, 111, 116]) || decide (s = [116, 114, 117, 101]) || decide (s = [102, 97, 108, 115, 101])
structure Lx where
 at_ : Nat
 nd : Xn
 say : List UInt8
 tat : Nat
 fin : Bool
 e : Int
 wh : Nat
def Lx.cells (s : List UInt8) (x : Lx) : List Value := [str s, .int .i64 (x.at_ : Int), .int .u8 (x.nd.op.toNat : Int), .int .u8 (x.nd.vl.kind.toNat : Int), .int .i64 x.nd.vl.int, .bool x.nd.vl.bool, str x.nd.vl.text, str x.nd.nm, .slice none 0 0, str x.say, .int .i64 (x.tat : Int), .bool x.fin, .int .i64 x.e, .int .i64 (x.wh : Int)]
def Lx.fail (x : Lx) (e : Int) (p : Nat) : Lx := if x.e = 0 then { x with e := e, wh := p } else x
def NW (l : List UInt8) : List UInt8 := l.dropWhile (fun b => b == 32)
section
variable (s : List UInt8) (fr : Nat → Lx → Xn × Lx)
end
def lx0 : Lx := ⟨0, .zero, [], 0, false, 0, 0⟩
end
end Go.Proofs.YtjaocmocdhckaaaGreatDoor
