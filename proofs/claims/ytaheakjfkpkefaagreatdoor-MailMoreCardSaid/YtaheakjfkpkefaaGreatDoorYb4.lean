/- Lemmas that the last text rests on. Condition: each says its own. -/
import Derived.Test.YtaheakjfkpkefaaGreatDoorYb3
import Derived.Maps.RangeRun
import Derived.Lib.Builder
import Derived.Laws.Externs
import Derived.Shelf.Sort.Plain
import Derived.Shelf.Slices.In.SortNone
import Derived.Shelf.Small.Strs
import Derived.Shelf.Bits.Mul64
import Derived.Shelf.Slices.Reverse
import Derived.Deep.Slices
import Derived.Deep.Strs
import Derived.ProofKit
import Derived.OpenShut
import Derived.Deep.DeepHandedRow
import Derived.Lay
import Derived.Shelf.Unicode.ValidAny
set_option maxHeartbeats 16000000
set_option maxRecDepth 100000
namespace Go.Proofs.YtaheakjfkpkefaaGreatDoor
open Go.RowKit
section
def ik (k : Int) : Value := .int .i64 k
theorem YP {a b : Int} (h : ik a = ik b) : a = b := by unfold ik at h; injection h
def upd (f : Int → Option Value) (k : Int) (v : Value) : Int → Option Value := fun x => if x = k then some v else f x
structure MiOk (es : Array MapEntry) (clock : Nat) (f : Int → Option Value) : Prop where
 keys : ∀ e ∈ es.toList, ∃ k, e.key = ik k ∧ f k = some e.val
 all : ∀ k v, f k = some v → ∃ e ∈ es.toList, e.key = ik k
 nodup : (es.toList.map (·.key)).Nodup
 born : (es.toList.map (·.born)).Nodup
 old : ∀ e ∈ es.toList, e.born < clock
def Mi (w : World) (g : Nat) (f : Int → Option Value) : Prop := ∃ es clock, w.heap[g]? = some (.map es clock) ∧ MiOk es clock f
theorem MiOk.val {es : Array MapEntry} {clock : Nat} {f : Int → Option Value} (h : MiOk es clock f) {e : MapEntry} (he : e ∈ es.toList) {k : Int} (hk : e.key = ik k) : f k = some e.val := by
 obtain ⟨k', h1, h2⟩ := h.keys e he
 rw [hk] at h1
 rw [YP h1]
 exact h2
theorem MiOk.empty : MiOk #[] 0 (fun _ => none) := ⟨by simp, by simp, by simp, by simp, by simp⟩
theorem MiOk.push {es : Array MapEntry} {clock : Nat} {f : Int → Option Value} (h : MiOk es clock f) {k : Int} (v : Value) (hn : f k = none) : MiOk (es.push { key := ik k, val := v, born := clock }) (clock + 1) (upd f k v) where
 keys e he := by
  rw [Array.toList_push, List.mem_append, List.mem_singleton] at he
  rcases he with he | rfl
  ·obtain ⟨k', h1, h2⟩ := h.keys e he
   refine ⟨k', h1, ?_⟩
   unfold upd
   rw [if_neg (by rintro rfl; rw [hn] at h2; cases h2)]
   exact h2
  ·exact ⟨k, rfl, by simp [upd]⟩
 all k' v' hv := by
  unfold upd at hv
  rw [Array.toList_push]
  by_cases hk : k' = k
  ·exact ⟨_, List.mem_append.2 (.inr (List.mem_singleton.2 rfl)), by rw [hk]⟩
  ·rw [if_neg hk] at hv
   obtain ⟨e, he, h1⟩ := h.all k' v' hv
   exact ⟨e, List.mem_append.2 (.inl he), h1⟩
 nodup := by
  rw [Array.toList_push, List.map_append, List.nodup_append]
  refine ⟨h.nodup, by simp, ?_⟩
  intro a ha b hb
  obtain ⟨e, he, rfl⟩ := List.mem_map.1 ha
  obtain rfl : b = ik k := by simpa using hb
  intro e1
  have := h.val he e1
  rw [hn] at this
  cases this
 born := by
  rw [Array.toList_push, List.map_append, List.nodup_append]
  refine ⟨h.born, by simp, ?_⟩
  intro a ha b hb
  obtain ⟨e, he, rfl⟩ := List.mem_map.1 ha
  obtain rfl : b = clock := by simpa using hb
  have := h.old e he
  omega
 old e he := by
  rw [Array.toList_push, List.mem_append, List.mem_singleton] at he
  rcases he with he | rfl
  ·have := h.old e he; omega
  ·exact Nat.lt_succ_self _
def Y4 (k : Int) (v : Value) (e : MapEntry) : MapEntry := { e with key := ik k, val := v }
theorem RE {es : Array MapEntry} {j : Nat} {g : MapEntry → MapEntry} {e : MapEntry} (h : e ∈ (es.modify j g).toList) : (∃ i, i ≠ j ∧ es[i]? = some e) ∨ ∃ e0, es[j]? = some e0 ∧ e = g e0 := by
 obtain ⟨i, hi⟩ := List.getElem?_of_mem h
 rw [Array.toList_modify, List.getElem?_modify] at hi
 by_cases hij : j = i
 ·subst hij
  right
  simp only [if_true] at hi
  obtain ⟨e0, h1, h2⟩ := Option.map_eq_some_iff.1 hi
  exact ⟨e0, by simpa using h1, h2.symm⟩
 ·left
  simp only [if_neg hij] at hi
  exact ⟨i, fun e => hij e.symm, by simpa using hi⟩
theorem RF {β : Type} {es : Array MapEntry} {j : Nat} {g : MapEntry → MapEntry} {q : MapEntry → β} (h : ∀ e, es[j]? = some e → q (g e) = q e) : (es.modify j g).toList.map q = es.toList.map q := by
 apply List.ext_getElem?
 intro i
 rw [Array.toList_modify, List.getElem?_map, List.getElem?_modify, List.getElem?_map]
 by_cases hij : j = i
 ·subst hij
  simp only [if_true]
  cases hj : es.toList[j]? with
  | none => rfl
  | some e => simp [h e (by simpa using hj)]
 ·simp [hij]
theorem MiOk.modify {es : Array MapEntry} {clock j : Nat} {f : Int → Option Value} (h : MiOk es clock f) {k : Int} (v : Value) {en : MapEntry} (hj : es[j]? = some en) (hk : en.key = ik k) : MiOk (es.modify j (Y4 k v)) clock (upd f k v) where
 keys e he := by
  rcases RE he with ⟨i, hij, hi⟩ | ⟨e0, h0, rfl⟩
  ·have hm : e ∈ es.toList := by have := Array.mem_of_getElem? hi; simpa using this
   obtain ⟨k', h1, h2⟩ := h.keys e hm
   refine ⟨k', h1, ?_⟩
   unfold upd
   rw [if_neg ?_]
   ·exact h2
   ·rintro rfl
    have hl : i < es.toList.length := by have := (Array.getElem?_eq_some_iff.1 hi).1; simpa using this
    have hl' : j < es.toList.length := by have := (Array.getElem?_eq_some_iff.1 hj).1; simpa using this
    have e1 : (es.toList.map (·.key))[i]? = (es.toList.map (·.key))[j]? := by
     rw [List.getElem?_map, List.getElem?_map]
     simp [hi, hj, h1, hk]
    exact hij ((List.getElem?_inj (by simpa using hl) h.nodup).1 e1)
  ·exact ⟨k, rfl, by simp [upd, Y4]⟩
 all k' v' hv := by
  have hnew : Y4 k v en ∈ (es.modify j (Y4 k v)).toList := by
   apply List.mem_of_getElem? (i := j)
   rw [Array.toList_modify, List.getElem?_modify]
   simp [hj]
  by_cases hk' : k' = k
  ·exact ⟨_, hnew, by rw [hk']; rfl⟩
  ·unfold upd at hv
   rw [if_neg hk'] at hv
   obtain ⟨e, he, h1⟩ := h.all k' v' hv
   obtain ⟨i, hi⟩ := List.getElem?_of_mem he
   refine ⟨e, ?_, h1⟩
   apply List.mem_of_getElem? (i := i)
   rw [Array.toList_modify, List.getElem?_modify]
   have hne : j ≠ i := by
    rintro rfl
    have : en = e := by have h2 : es.toList[j]? = some en := by simpa using hj
                        rw [h2] at hi; exact Option.some.inj hi
    subst this
    rw [hk] at h1
    exact hk' (YP h1).symm
   simp [hne, hi]
 nodup := by rw [RF (fun e he => by rw [hj] at he; injection he with he; subst he; exact hk.symm)]; exact h.nodup
 born := by rw [RF (g := Y4 k v) (q := fun e => e.born) (fun e he => rfl)]; exact h.born
 old e he := by
  rcases RE he with ⟨i, _, hi⟩ | ⟨e0, h0, rfl⟩
  ·exact h.old e (by have := Array.mem_of_getElem? hi; simpa using this)
  ·exact h.old e0 (by have := Array.mem_of_getElem? h0; simpa using this)
theorem i7 (a b : Int) (q : IntKind) : Instr.sameNow (.int q) (ik a) (ik b) = some (a == b) := by
 unfold ik
 simp only [Instr.sameNow, if_true]
theorem X5 (q : IntKind) (k : Int) : ∀ (es : List MapEntry) (i : Nat), (∀ e ∈ es, ∃ k', e.key = ik k') →
 ((∀ e ∈ es, e.key ≠ ik k) ∧ Instr.findNow (.int q) (ik k) es i = some none) ∨ ∃ j e, es[j]? = some e ∧ e.key = ik k ∧ Instr.findNow (.int q) (ik k) es i = some (some (i + j, e.val))
 | [], i, _ => .inl ⟨fun _ h => by (cases h), rfl⟩
 | en :: es, i, h => by
  obtain ⟨k', hk'⟩ := h en (by simp)
  have hc : Instr.findNow (.int q) (ik k) (en :: es) i = match Instr.sameNow (.int q) (ik k) en.key with | some true => some (some (i, en.val)) | some false => Instr.findNow (.int q) (ik k) es (i + 1) | none => none := rfl
  rw [hk', i7] at hc
  by_cases hk : k = k'
  ·subst hk
   refine .inr ⟨0, en, rfl, hk', ?_⟩
   rw [hc]; simp
  ·have hb : (k == k') = false := by simpa using hk
   rw [hb] at hc
   rcases X5 q k es (i + 1) (fun e he => h e (List.mem_cons_of_mem _ he)) with ⟨h1, h2⟩ | ⟨j, e, h1, h2, h3⟩
   ·refine .inl ⟨fun e he => ?_, by rw [hc]; exact h2⟩
    rcases List.mem_cons.1 he with rfl | he
    ·rw [hk']; exact fun e => hk (YP e).symm
    ·exact h1 e he
   ·refine .inr ⟨j + 1, e, by simpa using h1, h2, ?_⟩
    rw [hc]
    show Instr.findNow (.int q) (ik k) es (i + 1) = _
    rw [h3, show i + 1 + j = i + (j + 1) by omega]
theorem MiOk.find {es : Array MapEntry} {clock : Nat} {f : Int → Option Value} (h : MiOk es clock f) (q : IntKind) (k : Int) :
 (f k = none ∧ Instr.findNow (.int q) (ik k) es.toList 0 = some none) ∨ ∃ j e, es[j]? = some e ∧ e.key = ik k ∧ f k = some e.val ∧ Instr.findNow (.int q) (ik k) es.toList 0 = some (some (j, e.val)) := by
 rcases X5 q k es.toList 0 (fun e he => by obtain ⟨k', h1, _⟩ := h.keys e he; exact ⟨k', h1⟩) with ⟨h1, h2⟩ | ⟨j, e, h1, h2, h3⟩
 ·refine .inl ⟨?_, h2⟩
  cases hf : f k with
  | none => rfl
  | some v =>
   obtain ⟨e, he, hk⟩ := h.all k v hf
   exact absurd hk (h1 e he)
 ·refine .inr ⟨j, e, by simpa using h1, h2, h.val (List.mem_of_getElem? h1) h2, by simpa using h3⟩
section
variable {P : Program} {e : Env} {w : World} {o : Oper}
theorem LV {kt : TypeId} {q : IntKind} {k : Int} {es : List MapEntry} {r : Option (Nat × Value)} (hd : P.underlying kt = some (.int q)) (hf : Instr.findNow (.int q) (ik k) es 0 = some r) (w : World) : (Instr.findKey kt (ik k) es).run P w = .ok r w := by
 unfold Instr.findKey
 simp [run_underlying hd, hf]
theorem MR {kt : TypeId} {q : IntKind} (hd : P.underlying kt = some (.int q)) (k : Int) (b : Bool) (w : World) : (Instr.checkKey b 10000 kt (ik k)).run P w = .ok () w := by
 show (Instr.checkKey b (9999 + 1) kt _).run P w = _
 unfold Instr.checkKey
 simp [run_underlying hd]
theorem OT {g clock : Nat} {es : Array MapEntry} (hb : w.heap[g]? = some (.map es clock)) : (Go.getObj g).run P w = .ok (.map es clock) w := by
 unfold Go.getObj
 simp only [Sem.run, hb]
theorem eD {ρ : Operand → Value} {t : TypeId} (ho : o.op = .makeMap t none) : FM P ρ o w fun v w' => ∃ g, v = .map (some g) ∧ w.heap.size ≤ g ∧ g < w'.heap.size ∧ Mi w' g (fun _ => none) ∧ Fr0 w w' := by
 refine ⟨.map (some w.heap.size), w.alloc (.map #[] 0), .inl ?_, w.heap.size, rfl, Nat.le_refl _, by simp, ⟨#[], 0, by show (w.heap.push (.map #[] 0))[w.heap.size]? = _; simp, MiOk.empty⟩, Fr.refl.alloc _⟩
 unfold execOp
 simp [ho, Instr.makeMap]
theorem m4 {t kt el : TypeId} {q : IntKind} {x i : Operand} {ok : Bool} {g : Nat} {k : Int} {f : Int → Option Value} {z : Value} (ho : o.op = .lookup t x i ok) (hx : ev e x = some (.map (some g))) (hi : ev e i = some (AA k)) (hu : P.underlying t = some (.map kt el)) (hd : P.underlying kt = some (.int q))
 (hz : (P.info? el).map (·.zero) = some (some z)) (hM : Mi w g f) : Y P e o w (if ok then .tuple #[(f k).getD z, .bool (f k).isSome] else (f k).getD z) := fun ρ h => by
 obtain ⟨es, clock, hb, hes⟩ := hM
 obtain ⟨inf, hinf, hinz⟩ := Option.map_eq_some_iff.1 hz
 have h1 : ρ x = .map (some g) := h _ _ hx
 have h2 : ρ i = ik k := h _ _ hi
 unfold execOp
 simp only [ho, h1, h2]
 unfold Instr.lookup
 simp only [Sem.run_bind, run_underlying hu, Result.andThen_ok, Sem.run_pure, OT hb, MR hd]
 rcases hes.find q k with ⟨a1, a2⟩ | ⟨j, en, _, _, a1, a2⟩
 ·simp only [LV hd a2, a1]
  cases ok <;> simp [zeroValue, typeInfo, hinf, hinz]
 ·simp only [LV hd a2, a1]
  cases ok <;> simp
theorem YK {t kt el : TypeId} {q : IntKind} {g clock : Nat} {es : Array MapEntry} {k : Int} {v : Value} {f : Int → Option Value} (hu : P.underlying t = some (.map kt el)) (hd : P.underlying kt = some (.int q)) (hb : w.heap[g]? = some (.map es clock)) (hes : MiOk es clock f) :
 ∃ es' clock', (Instr.mapUpdate t (.map (some g)) (ik k) v).run P w = .ok () { w with heap := w.heap.setIfInBounds g (.map es' clock') } ∧ MiOk es' clock' (upd f k v) ∧
  (f k ≠ none → clock' = clock ∧ ∃ j en, es[j]? = some en ∧ en.key = ik k ∧ es' = es.modify j (Y4 k v)) := by
 have hbits : Instr.sameBits 10000 (ik k) (ik k) = true := by
  unfold ik
  simp [Instr.sameBits]
 rcases hes.find q k with ⟨a1, a2⟩ | ⟨j, en, hen, hkey, a1, a2⟩
 ·refine ⟨es.push { key := ik k, val := v, born := clock }, clock + 1, ?_, hes.push v a1, fun h => absurd a1 h⟩
  unfold Instr.mapUpdate
  simp only [Sem.run_bind, run_underlying hu, Result.andThen_ok, OT hb, MR hd, LV hd a2]
  unfold setObj
  simp only [Sem.run, hb]
 ·refine ⟨es.modify j (Y4 k v), clock, ?_, hes.modify v hen hkey, fun _ => ⟨rfl, j, en, hen, hkey, rfl⟩⟩
  have hold : ((es[j]?).map (·.key)).getD (ik k) = ik k := by rw [hen]; exact hkey
  unfold Instr.mapUpdate
  simp only [Sem.run_bind, run_underlying hu, Result.andThen_ok, OT hb, MR hd, LV hd a2, hold, Instr.keyThatStays, hbits, if_true, Sem.run_pure]
  unfold setObj
  simp only [Sem.run, hb]
  rfl
theorem dZ {ρ : Operand → Value} {t kt el : TypeId} {q : IntKind} {mp i x : Operand} {g : Nat} {k : Int} {v : Value} {f : Int → Option Value} (ho : o.op = .mapUpdate t mp i x) (hm : ρ mp = .map (some g)) (hi : ρ i = AA k) (hx : ρ x = v) (hu : P.underlying t = some (.map kt el)) (hd : P.underlying kt = some (.int q))
 (hM : Mi w g f) : FM P ρ o w fun u w' => u = undef ∧ Fr (fun b => b = g) w w' ∧ Mi w' g (upd f k v) := by
 obtain ⟨es, clock, hb, hes⟩ := hM
 have hlt : g < w.heap.size := (Array.getElem?_eq_some_iff.1 hb).1
 obtain ⟨es', clock', hrun, hok, _⟩ := YK (P := P) (k := k) (v := v) hu hd hb hes
 refine ⟨undef, { w with heap := w.heap.setIfInBounds g (.map es' clock') }, .inr ⟨?_, rfl⟩, rfl, ⟨rfl, rfl, rfl, by simp, fun r _ hn => by simp [Array.getElem?_setIfInBounds_ne (Ne.symm hn)]⟩, es', clock', by simp [hlt], hok⟩
 unfold execOp
 have hi' : ρ i = ik k := hi
 simp only [ho, hm, hi', hx, Sem.run_bind, hrun, Result.andThen_ok]; rfl
end
end
open Tryz
section
section
variable {P : Program} {e : Env} {w : World} {o : Oper}
theorem Z6 {s d : TypeId} {x : Operand} {v v' : Value} (ho : o.op = .convert s d x) (hx : ev e x = some v) (hc : (convert s d v).run P w = .ok v' w) : Y P e o w v' := fun ρ h => by
 unfold execOp; simp [ho, h _ _ hx, hc]
theorem aY {t t' el n : Nat} {a : Addr} {x y : Operand} (ho : o.op = .binOp .neq t x y t') (hx : ev e x = some (.pointer (some a))) (hy : ev e y = some (.pointer (some a))) (hu : LW P t = some el) (hz : ∀ w, (Go.sizeOf el).run P w = .ok n w) : Y P e o w (.bool false) := fun ρ h => by
 have h1 : (Op.equal t (.pointer (some a)) (.pointer (some a))).run P w = .ok true w := by
  unfold Op.equal Op.maxDepth Op.equalIn
  simp [run_underlying (R7 hu), hz, sameAddr]
 unfold execOp; simp [ho, h _ _ hx, h _ _ hy, eqGuard_at_pointer, binOp, h1]
theorem qA {f : FuncId} {x : Operand} {ts : Array TypeId} {v : Value} (ho : o.op = .call { callee := .value (.func f), args := #[x], argTypes := ts }) (hx : ev e x = some v) (hc : ∀ (u : Value) (w : World), (callFunc f #[u]).run P w = .ok (.value u) w) : Y P e o w v := fun ρ h => by
 have h0 : ρ (.func f) = .func (.func f) #[] #[] := h _ _ rfl
 unfold execOp; simp [ho, h _ _ hx, h0, resolve, invoke, Deferred.ofValue, hc]
end
theorem Fr.below1 {w w' : World} {b B : Nat} (h : Fr (fun k => k = b) w w') (hb : B ≤ b) (hBw : B ≤ w.heap.size) : Below B w w' := ⟨h.os, h.tape, h.output, h.size, fun k hk => h.block k A0 A0⟩
theorem sU (u : Value) (w : World) : (callFunc 218 #[u]).run prog w = .ok (.value u) w := by
 rw [run_callFunc_extern func218 gkr gkr gkr (e := Extern.AbiNoEscape.same) gkr, Lib.run_noEscape]
 rfl
theorem lR : liesAt prog prog.depth 246 (2 / prog.cellsOf 246) 0 246 1 = true := by kernel_rfl
theorem lS : (prog.info? 246).map (·.size) = some 2 := by kernel_rfl
theorem iH : (prog.info? 243).map (·.size) = some 1 := by kernel_rfl
theorem gX : (prog.info? 244).map (·.size) = some 1 := by kernel_rfl
theorem mI : (prog.info? 5).map (fun i => (i.zero, i.size, i.bytes)) = some (some (.int .u8 0), 1, 1) := by kernel_rfl
theorem qH : (prog.info? 5).map (fun i => (i.zero, i.size)) = some (some (.int .u8 0), 1) := by kernel_rfl
theorem V8 (B b : Nat) (bs : List Value) (w : World) (h : Lib.IsBuilder 246 5 B b bs w) (hBw : B ≤ w.heap.size) :
 Calls prog 198 #[.pointer (some ⟨b, 0, none⟩)] w fun e w' => e = .returned (.tuple #[]) ∧ Lib.BuilderAt 246 5 B b (.pointer (some ⟨b, 0, none⟩)) bs w' ∧ Below B w w' := by
 rcases h with h | h
 ·have hsh := h.shape
  obtain ⟨hB, v, hbk, hown, hne⟩ := h
  have hb : Blk w b 246 [.pointer none, v] := hbk
  have c0 : Cell w.heap b 0 (.pointer none) := hb.c 0 rfl
  obtain ⟨j, hj, hjs⟩ := Option.map_eq_some_iff.1 lS
  refine sx_enter (vs := [_]) func198 rfl ntmps198 rfl (AC rfl (AV rfl rfl (yl rfl rfl (by assumption) (ya rfl (IC rfl rfl rfl (pt rfl)) (nq (sx_true rfl (sx_region (AV rfl rfl (ya rfl (Z6 rfl rfl (Lib.run_to_unsafe _ ⟨b, 0, none⟩ underlying243 underlying287 hj (by rw [hjs]; decide) hsh (by show 0 < 2; omega))) (ya rfl (qA rfl rfl sU) ?_))))))))))
  refine ya rfl (Z6 rfl rfl (Lib.run_from_unsafe _ ⟨b, 0, none⟩ underlying287 underlying243 hj hsh lR)) (AV rfl rfl (sxl_does none (wn_none rfl) rfl rfl (fun ρ hρ => CQ _ _ _ rfl b 0 _ _ (.pointer (some ⟨b, 0, none⟩)) (hρ _ _ rfl) (hρ _ _ rfl) rfl hb iH (by show 0 < 2; omega) rfl) ?_))
  rintro _ w1 ⟨rfl, hb1, hf1⟩
  exact sxl_nil (qx_ret0 (Or.inr rfl) rfl ⟨rfl, ⟨hB, v, hb1, YA hown hf1 (fun k hk e => hne (by rw [hk, e])), hne⟩, hf1.below1 hB hBw⟩)
 ·have h' := h
  obtain ⟨hB, v, hbk, hown, hne⟩ := h
  have hb : Blk w b 246 [.pointer (some ⟨b, 0, none⟩), v] := hbk
  have c0 : Cell w.heap b 0 (.pointer (some ⟨b, 0, none⟩)) := hb.c 0 rfl
  refine sx_enter (vs := [_]) func198 rfl ntmps198 rfl (AC rfl (AV rfl rfl (yl rfl rfl (by assumption) (ya rfl (IC rfl rfl rfl (pt rfl)) (nq (sx_false rfl (AC rfl (AV rfl rfl ?_))))))))
  exact yl rfl rfl (by assumption) (yb rfl (ya rfl (aY rfl rfl rfl (pt rfl) sizeOf246) (nq (sx_false rfl (sx_skip (qx_ret0 (Or.inr rfl) rfl ⟨rfl, h', Below.refl B w⟩))))))
theorem NE (B b : Nat) (l : List UInt8) (c : UInt8) (w : World) (h : Lib.IsBuilder 246 5 B b (bvs l) w) (hlen : l.length + 1 ≤ 140737488355328) (hBw : B ≤ w.heap.size) :
 Calls prog 176 #[.pointer (some ⟨b, 0, none⟩), .int .u8 (c.toNat : Int)] w fun e w' => e = .returned .nilIface ∧ Lib.IsBuilder 246 5 B b (bvs (l ++ [c])) w' ∧ Below B w w' := by
 refine sx_enter (vs := [_, _]) func176 rfl ntmps176 rfl (srg (AG rfl (AC rfl (cl 6 rfl (AE rfl rfl call198) (V8 B b _ _ h hBw) ?_))))
 rintro _ w1 ⟨rfl, h1, hb1⟩
 refine ⟨_, rfl, ?_⟩
 obtain ⟨hB, v, hbk, hown, hne⟩ := h1
 have hb : Blk w1 b 246 [.pointer (some ⟨b, 0, none⟩), v] := hbk
 obtain ⟨A, cap, rfl, _, hcm, hrd, _⟩ := WG hown
 have c1 : Cell w1.heap b 1 (.slice A (bvs l).length cap) := hb.c 1 rfl
 refine EF ?_
 iterate 4 refine yb rfl ?_
 refine yl rfl rfl (by assumption) (yb rfl (sxl_does (some 13) (wn_none rfl) rfl rfl (fun ρ hρ => CM [bv c] (.int .u8 0) hρ rfl rfl rfl rfl underlying244 qH AU AU (by intro u hu; simp only [List.mem_singleton] at hu; subst hu; rfl)) ?_))
 rintro _ w2 ⟨g2, rfl, hg1, hg2, hb2, hf2⟩
 have hB1 := hb1.size
 refine sxl_does (some 14) (wn_none rfl) rfl rfl (fun ρ hρ => XA _ _ 244 rfl B 5 _ _ underlying244 mI rfl _ _ (bvs l) (hρ _ _ rfl) (YA hown hf2 (fun _ _ hh => hh)) _ 1 1 [bv c] (hρ _ _ rfl) (Rd.ofBlk hb2 rfl) (by intro u hu; simp only [List.mem_singleton] at hu; subst hu; rfl) (by rw [SF]; unfold maxLen; omega) (by rw [SF]; omega) (by have := hf2.size; omega)) ?_
 rintro v3 w3 ⟨hown3, hgr, hrow⟩
 obtain ⟨A3, cap3, rfl, _, _, _, _⟩ := WG hown3
 have hlt : b < w1.heap.size := hb.lt
 have hb3 : Blk w3 b 246 [.pointer (some ⟨b, 0, none⟩), .slice A (bvs l).length cap] := by
  have h2 : Blk w2 b 246 _ := hb.fr0 hf2
  exact (hgr.block b h2.lt (fun e => hne e.symm)).trans h2
 have hne3 : (Value.slice A3 ((bvs l).length + 1) cap3).ownBlock ≠ some b := Lib.ownBlock_ne hown3 hb3 AU
 refine AV rfl rfl (sxl_does none (wn_none rfl) rfl rfl (fun ρ hρ => CQ _ _ _ rfl b 1 _ _ (.slice A3 ((bvs l).length + 1) cap3) (hρ _ _ rfl) (hρ _ _ rfl) rfl hb3 gX (by show 1 < 2; omega) rfl) ?_)
 rintro _ w4 ⟨rfl, hb4, hf4⟩
 refine nq (AC rfl (gnr (gr1 rfl ?_)))
 have hl : bvs (l ++ [c]) = bvs l ++ [bv c] := by simp [bvs]
 have hf3 : Fr (fun k => some k = (Value.slice A (bvs l).length cap).ownBlock) w2 w3 := ⟨hgr.os, hgr.tape, hgr.output, hgr.size, fun k hk hn => hgr.block k hk hn⟩
 refine ⟨rfl, .inr ⟨hB, _, hb4, ?_, ?_⟩, ?_⟩
 ·rw [hl]
  have := YA hown3 hf4 (fun k hk e => hne3 (by rw [hk, e]))
  simpa using this
 ·simpa using hne3
 ·have hw2 := hf2.size
  refine hb1.trans ⟨hf4.os.trans (hf3.os.trans hf2.os), hf4.tape.trans (hf3.tape.trans hf2.tape), hf4.output.trans (hf3.output.trans hf2.output), Nat.le_trans hf2.size (Nat.le_trans hf3.size hf4.size), fun k hk => ?_⟩
  rw [hf4.block k (by have := hf3.size; omega) A0, hf3.block k A0 (fun e => ?_), hf2.block k A0 (fun hh => hh)]
  have := (hown.lt k e.symm).1
  omega
end
theorem qB {P : Program} {e : Env} {w : World} {o : Oper} {t t' : Nat} {a b : List UInt8} {x y : Operand} (ho : o.op = .binOp .add t x y t') (hx : ev e x = some (str a)) (hy : ev e y = some (str b)) (hl : a.length + b.length ≤ 9223372036854775807) : Y P e o w (str (a ++ b)) := fun ρ h => by
 have h1 : ρ x = .string ⟨a.toArray⟩ := h _ _ hx
 have h2 : ρ y = .string ⟨b.toArray⟩ := h _ _ hy
 unfold execOp
 have hs : ((⟨a.toArray⟩ : ByteArray).size : Nat) = a.length := by show a.toArray.size = _; simp
 have hs2 : ((⟨b.toArray⟩ : ByteArray).size : Nat) = b.length := by show b.toArray.size = _; simp
 have hap : (⟨a.toArray⟩ : ByteArray) ++ (⟨b.toArray⟩ : ByteArray) = ⟨(a ++ b).toArray⟩ := by
  apply ByteArray.ext
  rw [ByteArray.data_append]
  simp
 simp [ho, h1, h2, binOp, Op.stringOp, eqGuard_at_string, hs, hs2, hap, str, show ¬ ((9223372036854775807 : Int) < (a.length : Int) + (b.length : Int)) by omega]
end Go.Proofs.YtaheakjfkpkefaaGreatDoor
namespace Go.Proofs
open Go.Shelf
end Go.Proofs
namespace Go.Proofs
open Go.Shelf
end Go.Proofs
namespace Go.Proofs
open Go.Shelf
end Go.Proofs
namespace Go.Proofs.YtaheakjfkpkefaaGreatDoor
open Go.RowKit
section
def ED (L : List (List UInt8 × Value)) (k : List UInt8) : Value := (BP L k).getD (.slice none 0 0)
theorem IK (L : List (List UInt8 × Value)) (k k' : List UInt8) (v : Value) : ED (CK L k v) k' = if k' = k then v else ED L k' := by
 unfold ED
 rw [E8]
 split <;> rfl
theorem WF {w w' : World} {base size n : Nat} {e : TypeId} {v : Value} {xs : List Value} (h : w.ownsRow base e size v n xs) (hk : ∀ b, v.ownBlock = some b → b < w.heap.size → w'.heap[b]? = w.heap[b]?) : w'.ownsRow base e size v n xs := by
 refine ⟨h.1, ?_⟩
 rcases h.2 with hh | ⟨g, cap, cur, rfl, hb, hg, r⟩
 ·exact .inl hh
 ·exact .inr ⟨g, cap, cur, rfl, hb, (hk g rfl (Array.getElem?_eq_some_iff.1 hg).1).trans hg, r⟩
structure Fam {α : Type} (w : World) (base : Nat) (e : TypeId) (size : Nat) (cells : α → List Value) (g : Nat) (L : List (List UInt8 × Value)) (rows : List UInt8 → List α) (bad : List UInt8 → Prop) (F : List Nat) : Prop where
 map : Mp w g L
 gF : ¬ g ∈ F
 row : ∀ k, ¬ bad k → w.ownsRow base e size (ED L k) (rows k).length (AB cells (rows k)) ∧ ∀ b, (ED L k).ownBlock = some b → b ∈ F
 apart : ∀ k k' b, ¬ bad k → ¬ bad k' → (ED L k).ownBlock = some b → (ED L k').ownBlock = some b → k = k'
section
variable {α : Type} {w w' w0 : World} {base size g : Nat} {e : TypeId} {cells : α → List Value} {L : List (List UInt8 × Value)} {rows : List UInt8 → List α} {bad : List UInt8 → Prop} {F : List Nat} {S : Nat → Prop} {Ls : List As}
theorem Fam.keep (hk : ∀ b ∈ g :: F, b < w.heap.size → w'.heap[b]? = w.heap[b]?) (h : Fam w base e size cells g L rows bad F) : Fam w' base e size cells g L rows bad F := by
 obtain ⟨⟨es, cl, h1, h2⟩, hg, hr, ha⟩ := h
 exact ⟨⟨es, cl, (hk g (by simp) (Array.getElem?_eq_some_iff.1 h1).1).trans h1, h2⟩, hg, fun k hb => ⟨WF (hr k hb).1 (fun b hb' hl => hk b (List.mem_cons_of_mem _ ((hr k hb).2 b hb')) hl), (hr k hb).2⟩, ha⟩
def As.fam {α : Type} (base : Nat) (e : TypeId) (size : Nat) (cells : α → List Value) (g : Nat) (L : List (List UInt8 × Value)) (rows : List UInt8 → List α) (bad : List UInt8 → Prop) (F : List Nat) : As :=
 ⟨g :: F, fun w => Fam w base e size cells g L rows bad F, fun h hb => hb.keep h⟩
theorem Fam.new (hm : Mp w g []) (base : Nat) (e : TypeId) (size : Nat) (cells : α → List Value) : Fam w base e size cells g [] (fun _ => []) (fun _ => False) [] :=
 ⟨hm, by simp, fun k _ => ⟨⟨by simp [AB], .inl ⟨by simp [ED, BP], rfl⟩⟩, fun b hb => by simp [ED, BP, Value.ownBlock] at hb⟩, fun k k' b _ _ hb => by simp [ED, BP, Value.ownBlock] at hb⟩
theorem Mem.split2 {a b c : As} (M : Mem w0 S (c :: Ls) w) (ha : a.ok w) (hb : b.ok w) (hfa : ∀ x ∈ a.fp, x ∈ c.fp) (hfb : ∀ x ∈ b.fp, x ∈ c.fp) (hab : ∀ x ∈ a.fp, x ∉ b.fp) : Mem w0 S (a :: b :: Ls) w := by
 have rest : ∀ (i : Nat) (d : As), (a :: b :: Ls)[i + 2]? = some d → (c :: Ls)[i + 1]? = some d := fun i d h => h
 refine ⟨M.fr, ?_, ?_, ?_⟩
 ·intro i d hi
  match i with
  | 0 => simp only [List.getElem?_cons_zero, Option.some.injEq] at hi; subst hi; exact ha
  | 1 => simp only [List.getElem?_cons_succ, List.getElem?_cons_zero, Option.some.injEq] at hi; subst hi; exact hb
  | i + 2 => exact M.ok (i + 1) d (rest i d hi)
 ·intro i d hi x hx
  match i with
  | 0 => simp only [List.getElem?_cons_zero, Option.some.injEq] at hi; subst hi; exact M.lt 0 c rfl x (hfa x hx)
  | 1 => simp only [List.getElem?_cons_succ, List.getElem?_cons_zero, Option.some.injEq] at hi; subst hi; exact M.lt 0 c rfl x (hfb x hx)
  | i + 2 => exact M.lt (i + 1) d (rest i d hi) x hx
 ·intro i j d d' hi hj hne x hx hx'
  match i, j with
  | 0, 0 => exact hne rfl
  | 1, 1 => exact hne rfl
  | 0, 1 =>
   simp only [List.getElem?_cons_succ, List.getElem?_cons_zero, Option.some.injEq] at hi hj; subst hi; subst hj
   exact hab x hx hx'
  | 1, 0 =>
   simp only [List.getElem?_cons_succ, List.getElem?_cons_zero, Option.some.injEq] at hi hj; subst hi; subst hj
   exact hab x hx' hx
  | 0, j + 2 =>
   simp only [List.getElem?_cons_zero, Option.some.injEq] at hi; subst hi
   exact M.apart 0 (j + 1) c d' rfl (rest j d' hj) A0 x (hfa x hx) hx'
  | 1, j + 2 =>
   simp only [List.getElem?_cons_succ, List.getElem?_cons_zero, Option.some.injEq] at hi; subst hi
   exact M.apart 0 (j + 1) c d' rfl (rest j d' hj) A0 x (hfb x hx) hx'
  | i + 2, 0 =>
   simp only [List.getElem?_cons_zero, Option.some.injEq] at hj; subst hj
   exact M.apart (i + 1) 0 d c (rest i d hi) rfl A0 x hx (hfa x hx')
  | i + 2, 1 =>
   simp only [List.getElem?_cons_succ, List.getElem?_cons_zero, Option.some.injEq] at hj; subst hj
   exact M.apart (i + 1) 0 d c (rest i d hi) rfl A0 x hx (hfb x hx')
  | i + 2, j + 2 => exact M.apart (i + 1) (j + 1) d d' (rest i d hi) (rest j d' hj) A0 x hx hx'
theorem Mem.joinFam {a b : As} (M : Mem w0 S (a :: b :: Ls) w) (c : As) (hok : c.ok w) (hfp : ∀ x ∈ c.fp, x ∈ a.fp ∨ x ∈ b.fp) : Mem w0 S (c :: Ls) w := by
 have rest : ∀ (i : Nat) (d : As), (c :: Ls)[i + 1]? = some d → (a :: b :: Ls)[i + 2]? = some d := fun i d h => h
 have fp : ∀ k, k ∈ c.fp → ∃ (i : Nat) (d : As), i < 2 ∧ (a :: b :: Ls)[i]? = some d ∧ k ∈ d.fp := fun k hk => by
  rcases hfp k hk with h | h
  ·exact ⟨0, _, by decide, rfl, h⟩
  ·exact ⟨1, _, by decide, rfl, h⟩
 refine ⟨M.fr, ?_, ?_, ?_⟩
 ·intro i d hi
  cases i with
  | zero => simp only [List.getElem?_cons_zero, Option.some.injEq] at hi; subst hi; exact hok
  | succ i => exact M.ok (i + 2) d (rest i d hi)
 ·intro i d hi k hk
  cases i with
  | zero =>
   simp only [List.getElem?_cons_zero, Option.some.injEq] at hi; subst hi
   obtain ⟨j, f, _, h1, h2⟩ := fp k hk
   exact M.lt j f h1 k h2
  | succ i => exact M.lt (i + 2) d (rest i d hi) k hk
 ·intro i j d f hi hj hne k hk hk'
  cases i with
  | zero =>
   cases j with
   | zero => exact hne rfl
   | succ j =>
    simp only [List.getElem?_cons_zero, Option.some.injEq] at hi; subst hi
    obtain ⟨q, d', hq, h1, h2⟩ := fp k hk
    exact M.apart q (j + 2) d' f h1 (rest j f hj) A0 k h2 hk'
  | succ i =>
   cases j with
   | zero =>
    simp only [List.getElem?_cons_zero, Option.some.injEq] at hj; subst hj
    obtain ⟨q, d', hq, h1, h2⟩ := fp k hk'
    exact M.apart (i + 2) q d d' (rest i d hi) h1 A0 k hk h2
   | succ j => exact M.apart (i + 2) (j + 2) d f (rest i d hi) (rest j f hj) A0 k hk hk'
theorem Mem.famTake (M : Mem w0 S (As.fam base e size cells g L rows (fun _ => False) F :: Ls) w) (k0 : List UInt8) : ∃ A C F', ED L k0 = .slice A (rows k0).length C ∧ Mem w0 S (As.own base e size (.slice A (rows k0).length C) (rows k0).length (AB cells (rows k0)) :: As.fam base e size cells g L rows (fun k => k = k0) F' :: Ls) w := by
 have h : Fam w base e size cells g L rows (fun _ => False) F := M.ok 0 _ rfl
 obtain ⟨ho, hF⟩ := h.row k0 (fun hh => hh)
 obtain ⟨A, C, hv, _⟩ := CC ho
 refine ⟨A, C, F.filter (fun b => !(decide ((ED L k0).ownBlock = some b))), hv, ?_⟩
 rw [hv] at ho
 refine M.split2 ho (show Fam w base e size cells g L rows (fun k => k = k0) _ from ⟨h.map, fun hh => h.gF (List.mem_filter.1 hh).1, fun k hk => ⟨(h.row k (fun hh => hh)).1, fun b hb => List.mem_filter.2 ⟨(h.row k (fun hh => hh)).2 b hb, ?_⟩⟩, fun k k' b _ _ hb hb' => h.apart k k' b (fun hh => hh) (fun hh => hh) hb hb'⟩) ?_ ?_ ?_
 ·simp only [Bool.not_eq_true', decide_eq_false_iff_not]
  exact fun hb' => hk (h.apart k k0 b (fun hh => hh) (fun hh => hh) hb hb')
 ·intro x hx
  have hx' : (ED L k0).ownBlock = some x := by rw [hv]; simpa [As.own] using hx
  exact List.mem_cons_of_mem _ (hF x hx')
 ·intro x hx
  rcases List.mem_cons.1 hx with rfl | hx
  ·exact List.mem_cons_self
  ·exact List.mem_cons_of_mem _ (List.mem_filter.1 hx).1
 ·intro x hx hx'
  have h1 : (ED L k0).ownBlock = some x := by rw [hv]; simpa [As.own] using hx
  rcases List.mem_cons.1 hx' with rfl | hx'
  ·exact h.gF (hF x h1)
  ·have := (List.mem_filter.1 hx').2
   simp [h1] at this
theorem Mem.famPut {k0 : List UInt8} {A : Option Addr} {n C : Nat} {row' : List α} (M : Mem w0 S (As.own base e size (.slice A n C) n (AB cells row') :: As.fam base e size cells g L rows (fun k => k = k0) F :: Ls) w) (hv : ED L k0 = .slice A n C) (hn : n = row'.length) (rows' : List UInt8 → List α) (h0 : rows' k0 = row') (h1 : ∀ k, k ≠ k0 → rows' k = rows k) :
 ∃ F', Mem w0 S (As.fam base e size cells g L rows' (fun _ => False) F' :: Ls) w := by
 have h : Fam w base e size cells g L rows (fun k => k = k0) F := M.ok 1 _ rfl
 have ho := M.own 0 rfl
 have hap : ∀ b, (ED L k0).ownBlock = some b → ¬ b ∈ g :: F := fun b hb => by
  rw [hv] at hb
  exact M.apart 0 1 _ _ rfl rfl AU b (by simp [As.own, hb])
 refine ⟨(ED L k0).ownBlock.toList ++ F, M.joinFam _ (show Fam w base e size cells g L rows' (fun _ => False) _ from ⟨h.map, ?_, ?_, ?_⟩) ?_⟩
 ·intro hh
  rcases List.mem_append.1 hh with hh | hh
  ·exact hap g (by simpa using hh) List.mem_cons_self
  ·exact h.gF hh
 ·intro k _
  by_cases hk : k = k0
  ·subst hk
   rw [h0, hv, ← hn]
   exact ⟨ho, fun b hb => List.mem_append_left _ (by simpa using hb)⟩
  ·rw [h1 k hk]
   exact ⟨(h.row k hk).1, fun b hb => List.mem_append_right _ ((h.row k hk).2 b hb)⟩
 ·intro k k' b _ _ hb hb'
  by_cases hk : k = k0
  ·by_cases hk' : k' = k0
   ·rw [hk, hk']
   ·subst hk; exact absurd (List.mem_cons_of_mem _ ((h.row k' hk').2 b hb')) (hap b hb)
  ·by_cases hk' : k' = k0
   ·subst hk'; exact absurd (List.mem_cons_of_mem _ ((h.row k hk).2 b hb)) (hap b hb')
   ·exact h.apart k k' b hk hk' hb hb'
 ·intro x hx
  rcases List.mem_cons.1 (show x ∈ g :: ((ED L k0).ownBlock.toList ++ F) from hx) with rfl | hx
  ·exact .inr List.mem_cons_self
  ·rcases List.mem_append.1 hx with hx | hx
   ·left; rw [hv] at hx; simpa [As.own] using hx
   ·exact .inr (List.mem_cons_of_mem _ hx)
theorem Mem.putFam {k0 : List UInt8} {v : Value} (M : Mem w0 S Ls w) (i : Nat) (hi : Ls[i]? = some (As.fam base e size cells g L rows (fun k => k = k0) F)) (hf : Fr (fun b => b = g) w w') (hb : Mp w' g (CK L k0 v)) : Mem w0 S (Ls.set i (As.fam base e size cells g (CK L k0 v) rows (fun k => k = k0) F)) w' := by
 have h : Fam w base e size cells g L rows (fun k => k = k0) F := M.ok i _ hi
 refine M.upd i hi (hf.mono fun k _ e => by rw [e]; exact List.mem_cons_self) _ (show Fam w' base e size cells g (CK L k0 v) rows (fun k => k = k0) F from ⟨hb, h.gF, fun k hk => ?_, fun k k' b hk hk' h1 h2 => ?_⟩) (fun g' hg' => .inl hg')
 ·rw [IK, if_neg hk]
  exact ⟨WF (h.row k hk).1 (fun b hb' hl => hf.block b hl (fun hh => h.gF (hh ▸ (h.row k hk).2 b hb'))), (h.row k hk).2⟩
 ·rw [IK, if_neg hk] at h1
  rw [IK, if_neg hk'] at h2
  exact h.apart k k' b hk hk' h1 h2
theorem Mem.famMp (M : Mem w0 S Ls w) (i : Nat) (hi : Ls[i]? = some (As.fam base e size cells g L rows bad F)) : Mp w g L := Fam.map (M.ok i _ hi)
end
end
open Go.ChangeShapes Go.WideShapes Go.ChangeAt Go.RowKit Go.Deep
section
section
variable {H : Type} {enc : TypeId × Value → H} {P : Program} {w : World}
def SL (enc : TypeId × Value → H) (P : Program) (w : World) (t : TypeId) (r : List Value) (d : DataW H) : Prop := ∃ n p, DataW.trod enc P w 0 (fun _ => true) true n t r = some (d, p)
theorem IG {t e sz len cap fuel : Nat} {A : Option Addr} {x : DataW H × List MemPlace} (ht : P.underlying t = some (.slice e)) (hc : P.cellsOf e = sz) (hpos : 0 < sz)
 (h : DataW.trod enc P w 0 (fun _ => true) true fuel t [.slice A len cap] = some x) :
 ∃ (rows : List (List Value)) (D : List (DataW H)), rows.length = len ∧ D.length = len ∧ All sz rows ∧ Rd w A (len * sz) rows.flatten ∧ len ≤ cap ∧ cap ≤ maxLen ∧ (A = none → cap = 0) ∧
  (∀ (i : Nat) (r : List Value), rows[i]? = some r → ∃ d, D[i]? = some d ∧ SL enc P w e r d) ∧ ((x.1 = .nil ∧ len = 0 ∧ cap = 0) ∨ ∃ sp, x.1 = .slice D sp ∧ sp.length = cap - len) := by
 rcases open_slice ht h with ⟨hcs, rfl⟩ | ⟨a, len', cap', m, n, D, Pl, hcs, _, hl, hm, hmm, rfl, hx⟩
 ·simp only [List.cons.injEq, Value.slice.injEq, and_true] at hcs
  obtain ⟨rfl, rfl, rfl⟩ := hcs
  exact ⟨[], [], rfl, rfl, All.nil, by rw [Nat.zero_mul]; exact Rd.nil, Nat.le_refl _, Nat.zero_le _, fun _ => rfl, fun i r hr => by simp at hr, .inl ⟨rfl, rfl, rfl⟩⟩
 ·simp only [List.cons.injEq, Value.slice.injEq, and_true] at hcs
  obtain ⟨rfl, rfl, rfl⟩ := hcs
  simp only [if_true] at hmm
  subst hmm
  obtain ⟨C, hC⟩ := choose_lt (α := List Value) (p := fun i cs => w.cells? 0 (a.add (i * P.cellsOf e)) (P.cellsOf e) = some cs ∧ DataW.trod enc P w 0 (fun _ => true) true n e cs = some (D i, Pl i)) (fun i hi => hx i hi)
  rw [hc] at hC
  have hrow : ∀ i, i < len → (C i).length = sz := fun i hi => (World.cells?_some (hC i A0).1).2.1
  have hall : All sz ((List.range len).map C) := by
   intro r hr
   obtain ⟨i, hi, rfl⟩ := List.mem_map.1 hr
   exact hrow i (List.mem_range.1 hi)
  refine ⟨(List.range len).map C, (List.range len).map D, by simp, by simp, hall, ⟨by rw [LD hall]; simp, fun h0 => ?_⟩, hl, hm, by simp, ?_, .inr ⟨_, rfl, by simp⟩⟩
  ·have hlen : 0 < len := Nat.pos_of_mul_pos_right h0
   obtain ⟨b, off, sp⟩ := a
   have hsp : sp = none := by
    have h1 := (World.cells?_some (hC 0 A0).1).2.2 0 hpos
    have h2 := (World.cells?_some (hC 0 A0).1).2.1
    rw [List.getElem?_eq_getElem A0] at h1
    cases sp with
    | none => rfl
    | some s =>
     exfalso
     simp only [Nat.zero_mul, Addr.add, if_true, World.cell?] at h1
     split at h1 <;> simp at h1
   subst hsp
   refine ⟨b, off, rfl, fun j u hu => ?_⟩
   have hj : j < len * sz := by have := (List.getElem?_eq_some_iff.1 hu).1; rw [LD hall] at this; simpa using this
   have hi : j / sz < len := Nat.div_lt_of_lt_mul (by rw [Nat.mul_comm]; exact hj)
   have hjm : j % sz < sz := Nat.mod_lt _ hpos
   have hat := V0 hall (i := j / sz) (x := C (j / sz)) (by rw [List.getElem?_map, List.getElem?_range hi]; rfl)
   have hcell := (World.cells?_some (hC (j / sz) A0).1).2.2 (j % sz) hjm
   rw [← hat, List.getElem?_take_of_lt hjm, List.getElem?_drop] at hcell
   have e1 : j / sz * sz + j % sz = j := by rw [Nat.mul_comm]; exact Nat.div_add_mod j sz
   rw [e1, hu, Addr.add_mid, Addr.add_mid, Nat.add_assoc, e1] at hcell
   exact hcell
  ·intro i r hr
   have hi : i < len := by have := (List.getElem?_eq_some_iff.1 hr).1; simpa using this
   rw [List.getElem?_map, List.getElem?_range hi] at hr
   simp only [Option.map_some, Option.some.injEq] at hr
   subst hr
   exact ⟨D i, by rw [List.getElem?_map, List.getElem?_range hi]; rfl, n, _, (hC i A0).2⟩
theorem VQ {n : Int} (h : (Lit.int .u8 n).wf = true) : Value.int .u8 n = bv (UInt8.ofNat n.toNat) := by
 have hb := bounds_u8 h
 unfold bv
 congr 1
 rw [UInt8.toNat_ofNat']
 omega
end
end
theorem VM {H : Type} {enc : TypeId × Value → H} {C : Checked} {os : Os} {f : FuncId} {fn : Func} {s : OpenSpec} {conds : List PathCond} {apart : Bool} {laid : List (String × DataW Unit)} (modest : Bool) (w0 : World) (args : Array Value) (hos : w0.os = os)
 (hv : (w0.forCall (fun _ _ => 0) ⟨#[], args, []⟩).variablesZipB C.prog = true)
 (hr : ((w0.forCall (fun _ _ => 0) ⟨#[], args, []⟩).heap.toList.drop C.prog.globals.size).take ((begin C.prog (fun _ _ => 0) default).world.heap.size - C.prog.globals.size) =
  (begin C.prog (fun _ _ => 0) default).world.heap.toList.drop C.prog.globals.size)
 (hok : Input.okWideB C.prog (w0.forCall (fun _ _ => 0) ⟨#[], args, []⟩) f ⟨#[], args, []⟩ = true)
 (hrow : s.preRow enc C.prog fn conds apart laid (w0.forCall (fun _ _ => 0) ⟨#[], args, []⟩).memory args) :
 ∃ (w : World) (tape : Tape) (i : Input), w.os = os ∧ (w.forCall tape i).Shaped C.prog ∧ i.vars = [] ∧ Input.okWide C.prog (w.forCall tape i) .any w.heap.size f i ∧
  s.preRow enc C.prog fn conds apart laid (w.forCall tape i).memory i.args ∧ ({ modest := modest } : Assume).holds C.prog (lone (Frame.enter C.prog f i.args .normal) [] (w.forCall tape i)) :=
 ⟨w0, fun _ _ => 0, ⟨#[], args, []⟩, hos, World.shaped_of_ZipB hv hr, (Input.okWide_of_okWideB (base := 0) hok).1, (Input.okWide_of_okWideB hok).2, hrow, by
  simp only [Assume.holds]
  exact ⟨by simp, by simp, fun _ => Modest.zero, by simp, by simp⟩⟩
open Go.RowKit Go.Shelf
open Tryz
def tL : Ren := ⟨fun n => if n = 196 then 156 else 189,
 fun n => if n = 0 then 0 else if n = 3 then 3 else if n = 4 then 4 else if n = 5 then 5 else if n = 9 then 9 else if n = 12 then 12 else if n = 46 then 44 else if n = 53 then 276 else if n = 119 then 195 else if n = 138 then 262 else 263,
 fun n => if n = 3 then 0 else 1⟩
theorem sO : Lays.n196 prog tL where
 mixed := CL
 f196 := by kernel_rfl
 f259 := by kernel_rfl
 t0 := underlying0
 a0 := isAgg0
 z0 := sizeOf0
 v0 := zeroValue0
 t3 := underlying3
 a3 := isAgg3
 z3 := sizeOf3
 v3 := zeroValue3
 t4 := underlying4
 a4 := isAgg4
 z4 := sizeOf4
 v4 := zeroValue4
 t5 := underlying5
 a5 := isAgg5
 z5 := sizeOf5
 v5 := zeroValue5
 t9 := underlying9
 a9 := isAgg9
 z9 := sizeOf9
 v9 := zeroValue9
 t12 := underlying12
 a12 := isAgg12
 z12 := sizeOf12
 v12 := zeroValue12
 t46 := underlying44
 a46 := isAgg44
 z46 := sizeOf44
 v46 := zeroValue44
 t53 := underlying276
 a53 := isAgg276
 z53 := sizeOf276
 v53 := zeroValue276
 t119 := underlying195
 a119 := isAgg195
 z119 := sizeOf195
 t138 := underlying262
 a138 := isAgg262
 z138 := sizeOf262
 v138 := zeroValue262
 t139 := underlying263
 a139 := isAgg263
 z139 := sizeOf263
 v139 := zeroValue263
 g3 := by kernel_rfl
 g4 := by kernel_rfl
theorem YQ : (firstZ.map fun z => Value.int .u8 z) = (List.range 256).map fun c => Value.int .u8 (Go.Lib.firstT c : Int) := by kernel_rfl
theorem W4 : (pairsZ.flatMap fun z => [Value.int .u8 z.1, Value.int .u8 z.2]) = (List.range 32).map fun j => Value.int .u8 (if j % 2 = 0 then (Go.Lib.accLo (j / 2) : Int) else (Go.Lib.accHi (j / 2) : Int)) := by kernel_rfl
theorem Laid.tabs {w : World} (h : Laid w utfL) : Go.Lib.Utf8Tabs 0 1 w := by
 obtain ⟨el, fz, h1⟩ := h _ (List.mem_cons_self)
 obtain ⟨el', fz', h2⟩ := h _ (List.mem_cons_of_mem _ List.mem_cons_self)
 simp only at h1 h2
 rw [YQ] at h1
 rw [W4] at h2
 refine ⟨fun c hc => ?_, fun i hi => ⟨?_, ?_⟩⟩
 ·simp [World.cell?, h1, hc]
 ·have e1 : 2 * i % 2 = 0 := by omega
  have e2 : 2 * i / 2 = i := by omega
  have e3 : 2 * i < 32 := by omega
  simp [World.cell?, h2, e1, e2, e3]
 ·have e1 : (2 * i + 1) % 2 = 1 := by omega
  have e2 : (2 * i + 1) / 2 = i := by omega
  have e3 : 2 * i + 1 < 32 := by omega
  simp [World.cell?, h2, e1, e2, e3]
theorem Laid.fr {w w' : World} {L : List (Nat × List Value)} (h : Laid w L) (hf : Fr0 w w') : Laid w' L := fun p hp => by
 obtain ⟨el, fz, h1⟩ := h p hp
 exact ⟨el, fz, (hf.block _ (Array.getElem?_eq_some_iff.1 h1).1 (fun hh => hh)).trans h1⟩
theorem Fr0.of_below {w w' : World} (h : Below w.heap.size w w') : Fr0 w w' := ⟨h.os, h.tape, h.output, h.size, fun k hk _ => h.block k hk⟩
theorem fG (l : List UInt8) (w : World) (hm : (l.length : Int) < 4611686018427387904) (hT : Laid w utfL) : Calls prog 156 #[str l] w (BN w (.bool (utf l))) := by
 have hs : (ByteArray.mk l.toArray).size = l.length := by show l.toArray.size = _; simp
 have h := Any.utf8_ValidString sO ⟨l.toArray⟩ w A0 hT.tabs
 refine h.mono fun e w' ⟨he, hb⟩ => ⟨?_, Fr0.of_below hb⟩
 rw [he]
 have : (ByteArray.mk l.toArray).data.toList = l := rfl
 rw [this, XT l.length l (Nat.le_refl _)]
theorem K0 (l : List UInt8) (w : World) (hm : (l.length : Int) < 4611686018427387904) (hT : Laid w utfL) : Calls prog 102 #[str l] w (BN w (.bool (utf l))) := by
 refine sx_enter (vs := [_]) func102 rfl ntmps102 rfl (srg (AG rfl (AC rfl (sxl_call (some 4) (by first | exact wn_none rfl | exact wn_on rfl rfl rfl) rfl rfl (AE rfl rfl call156) (fG l _ hm hT) ?_))))
 rintro _ w1 ⟨rfl, hf1⟩
 exact ⟨_, rfl, yb rfl (gnr (gr1 rfl ⟨rfl, hf1⟩))⟩
def vOk (v : Vl) : Bool := if v.kind = 1 then (!v.bool && decide (v.text = [])) else if v.kind = 2 then (decide (v.int = 0) && decide (v.text = [])) else if v.kind = 3 then (decide (v.int = 0) && (!v.bool && (decide (v.text.length ≤ 1024) && utf v.text))) else false
def chk (v : Vl) : Int := if vOk v then 0 else 1
theorem aS {v : Vl} (h : vOk v = true) : chk v = 0 := by unfold chk; rw [h]; rfl
theorem S6 {v : Vl} (h : vOk v = false) : chk v = 1 := by unfold chk; rw [h]; rfl
theorem US {k : UInt8} {n : Nat} (h : k ≠ UInt8.ofNat n) : (k.toNat : Int) ≠ n := fun e => h (by
 have : k.toNat = n := by omega
 rw [← this]; simp)
theorem HC (v : Vl) (w : World) (hm : (v.text.length : Int) < 4611686018427387904) (hT : Laid w utfL) : Calls prog 59 #[v.val] w (BN w (AA (chk v))) := by
 refine sx_enter (vs := [_]) func59 rfl ntmps59 rfl (srg (sxl_does (some 1) (wn_none rfl) rfl rfl (fun ρ hρ => LH 100 (.tmp 0) rfl v.cells (by rw [hρ _ _ rfl]; rfl)) ?_))
 rintro _ w1 ⟨g, rfl, hg1, hg2, hb, hf⟩
 have c0 : Cell w1.heap g 0 (.int .u8 (v.kind.toNat : Int)) := hb.c 0 rfl
 have c1 : Cell w1.heap g 1 (AA v.int) := hb.c 1 rfl
 have c2 : Cell w1.heap g 2 (.bool v.bool) := hb.c 2 rfl
 have c3 : Cell w1.heap g 3 (str v.text) := hb.c 3 rfl
 have hrd : Rd w1 (some ⟨g, 0, none⟩) 4 v.cells := Rd.ofBlk hb rfl
 have hk := v.kind.toNat_lt
 by_cases k1 : v.kind = 1
 ·have k1' : (v.kind.toNat : Int) = 1 := by rw [k1]; rfl
  refine AG rfl (srg (AG rfl (sx_seq (AC rfl (yl rfl rfl (by assumption) (nq (sx_block ?_)))))))
  refine srg (ya rfl (LT rfl rfl rfl A0) (AG rfl (sx_true rfl (EG 5 (fun w' => Rd w' (some ⟨g, 0, none⟩) 4 v.cells ∧ Cell w'.heap g 1 (AA v.int)) CL ?_))))
  have HS : Rd w1.drew (some ⟨g, 0, none⟩) 4 v.cells ∧ Cell w1.drew.heap g 1 (AA v.int) := ⟨hrd, c1⟩
  refine oa 0 3 rfl rfl HS (fun w' hS' => AH rfl rfl hS'.1 underlying100 rfl EC) (oa 1 3 rfl rfl HS (fun w' hS' => yp rfl) (oa 2 3 rfl rfl HS (fun w' hS' => B9 rfl rfl (sc rfl) (by obtain ⟨s1, s2⟩ := hS'; assumption)) (C5 3 (some 11) gkr rfl (wn_none rfl) rfl rfl (AE rfl rfl call100) (cN v.int _) ?_)))
  rintro _ w2 ⟨rfl, hf2⟩
  have HS : Rd w2 (some ⟨g, 0, none⟩) 4 v.cells ∧ Cell w2.heap g 1 (AA v.int) := ⟨hrd.fr0 hf2.ofDrew, c1.fr hf2.ofDrew (fun hh => hh)⟩
  refine ⟨_, rfl, fun _ => HS, ?_⟩
  refine CW 4 gkr rfl (wn_none rfl) rfl rfl (XM rfl rfl rfl) HS (NM 5 gkr rfl rfl gkr ?_)
  have hsm : v.same ⟨1, v.int, false, []⟩ = vOk v := by
   unfold Vl.same vOk
   rw [if_pos k1, k1]
   cases v.bool <;> simp
  refine yb rfl (sxl_nil (qx_block_normal (qx_seq (sx_seq (AC rfl (AG rfl ?_))))))
  rw [hsm]
  cases hv : vOk v with
  | true =>
   exact sx_false rfl (sx_skip (qx_seq (AC rfl (gnr (gr1 rfl ⟨by rw [aS hv], hf.trans hf2.ofDrew⟩)))))
  | false =>
   exact sx_true rfl (AC rfl (gnr (qx_then_ret (gr1 rfl ⟨by rw [S6 hv], hf.trans hf2.ofDrew⟩))))
 by_cases k2 : v.kind = 2
 ·have k1' : (v.kind.toNat : Int) ≠ 1 := by rw [k2]; decide
  have k2' : (v.kind.toNat : Int) = 2 := by rw [k2]; rfl
  refine AG rfl (srg (AG rfl (sx_seq (AC rfl (yl rfl rfl (by assumption) (nq (sx_block ?_)))))))
  refine srg (ya rfl (HJ rfl rfl rfl A0) (AG rfl (sx_false rfl (srg (ya rfl (LT rfl rfl rfl A0) (AG rfl (sx_true rfl (EG 5 (fun w' => Rd w' (some ⟨g, 0, none⟩) 4 v.cells ∧ Cell w'.heap g 2 (.bool v.bool)) CL ?_))))))))
  have HS : Rd w1.drew (some ⟨g, 0, none⟩) 4 v.cells ∧ Cell w1.drew.heap g 2 (.bool v.bool) := ⟨hrd, c2⟩
  refine oa 0 3 rfl rfl HS (fun w' hS' => AH rfl rfl hS'.1 underlying100 rfl EC) (oa 1 3 rfl rfl HS (fun w' hS' => yp rfl) (oa 2 3 rfl rfl HS (fun w' hS' => B9 rfl rfl (sc rfl) (by obtain ⟨s1, s2⟩ := hS'; assumption)) (C5 3 (some 18) gkr rfl (wn_none rfl) rfl rfl (AE rfl rfl call101) (fK v.bool _) ?_)))
  rintro _ w2 ⟨rfl, hf2⟩
  have HS : Rd w2 (some ⟨g, 0, none⟩) 4 v.cells ∧ Cell w2.heap g 2 (.bool v.bool) := ⟨hrd.fr0 hf2.ofDrew, c2.fr hf2.ofDrew (fun hh => hh)⟩
  refine ⟨_, rfl, fun _ => HS, ?_⟩
  refine CW 4 gkr rfl (wn_none rfl) rfl rfl (XM rfl rfl rfl) HS (NM 5 gkr rfl rfl gkr ?_)
  have hsm : v.same ⟨2, 0, v.bool, []⟩ = vOk v := by
   unfold Vl.same vOk
   rw [if_neg k1, if_pos k2, k2]
   simp
  refine yb rfl (sxl_nil (qx_block_normal (qx_seq (sx_seq (AC rfl (AG rfl ?_))))))
  rw [hsm]
  cases hv : vOk v with
  | true =>
   exact sx_false rfl (sx_skip (qx_seq (AC rfl (gnr (gr1 rfl ⟨by rw [aS hv], hf.trans hf2.ofDrew⟩)))))
  | false =>
   exact sx_true rfl (AC rfl (gnr (qx_then_ret (gr1 rfl ⟨by rw [S6 hv], hf.trans hf2.ofDrew⟩))))
 have k1' : (v.kind.toNat : Int) ≠ 1 := US (n := 1) k1
 have k2' : (v.kind.toNat : Int) ≠ 2 := US (n := 2) k2
 by_cases k3 : v.kind = 3
 ·have k3' : (v.kind.toNat : Int) = 3 := by rw [k3]; rfl
  refine AG rfl (srg (AG rfl (sx_seq (AC rfl (yl rfl rfl (by assumption) (nq (sx_block ?_)))))))
  refine srg (ya rfl (HJ rfl rfl rfl A0) (AG rfl (sx_false rfl (srg (ya rfl (HJ rfl rfl rfl A0) (AG rfl (sx_false rfl (srg ?_))))))))
  refine ya rfl (LT rfl rfl rfl A0) (AG rfl (sx_true rfl (EG 16 (fun w' => Rd w' (some ⟨g, 0, none⟩) 4 v.cells ∧ Cell w'.heap g 3 (str v.text)) CL ?_)))
  have HS : Rd w1.drew (some ⟨g, 0, none⟩) 4 v.cells ∧ Cell w1.drew.heap g 3 (str v.text) := ⟨hrd, c3⟩
  refine oa 0 3 rfl rfl HS (fun w' hS' => AH rfl rfl hS'.1 underlying100 rfl EC) (oa 1 3 rfl rfl HS (fun w' hS' => yp rfl) (oa 2 3 rfl rfl HS (fun w' hS' => B9 rfl rfl (sc rfl) (by obtain ⟨s1, s2⟩ := hS'; assumption)) (C5 3 (some 25) gkr rfl (wn_none rfl) rfl rfl (AE rfl rfl call37) (NF v.text _) ?_)))
  rintro _ w2 ⟨rfl, hf2⟩
  have c3' : Cell w2.heap g 3 (str v.text) := c3.fr hf2.ofDrew (fun hh => hh)
  have HS : Rd w2 (some ⟨g, 0, none⟩) 4 v.cells ∧ Cell w2.heap g 3 (str v.text) := ⟨hrd.fr0 hf2.ofDrew, c3'⟩
  refine ⟨_, rfl, fun _ => HS, ?_⟩
  have hw2 : Fr0 w w2 := hf.trans hf2.ofDrew
  have hsm : v.same ⟨3, 0, false, v.text⟩ = (decide (v.int = 0) && !v.bool) := by
   unfold Vl.same
   rw [k3]
   cases v.bool <;> simp
  have hvk : vOk v = ((decide (v.int = 0) && !v.bool) && (decide (v.text.length ≤ 1024) && utf v.text)) := by
   unfold vOk
   rw [if_neg k1, if_neg k2, if_pos k3, Bool.and_assoc]
  refine CW 4 gkr rfl (wn_none rfl) rfl rfl (XM rfl rfl rfl) HS ?_
  rw [hsm]
  cases ha : (decide (v.int = 0) && !v.bool) with
  | false =>
   have hv : vOk v = false := by rw [hvk, ha]; rfl
   refine CW 5 gkr rfl (wn_none rfl) rfl rfl (yp rfl) HS (G1 6 gkr rfl rfl rfl rfl rfl rfl rfl HS (G1 7 gkr rfl rfl rfl rfl rfl rfl rfl HS (G1 8 gkr rfl rfl rfl rfl rfl rfl rfl HS (G1 9 gkr rfl rfl rfl rfl rfl rfl rfl HS (CW 10 gkr rfl (wn_none rfl) rfl rfl (yp rfl) HS (CW 11 gkr rfl (wn_none rfl) rfl rfl (yp rfl) HS (G1 12 gkr rfl rfl rfl rfl rfl rfl rfl HS (G1 13 gkr rfl rfl rfl rfl rfl rfl rfl HS (G1 14 gkr rfl rfl rfl rfl rfl rfl rfl HS (CW 15 gkr rfl (wn_none rfl) rfl rfl (yp rfl) HS (NM 16 gkr rfl rfl gkr (yb rfl (sxl_nil (qx_block_normal (qx_seq ?_)))))))))))))))
   refine sx_seq (AC rfl (AG rfl (sx_true rfl (AC rfl (gnr (qx_then_ret (gr1 rfl ?_)))))))
   exact ⟨by rw [S6 hv], hw2⟩
  | true =>
   by_cases hl : v.text.length ≤ 1024
   ·skip
    refine CW 5 gkr rfl (wn_none rfl) rfl rfl (yp rfl) HS (CW 6 gkr rfl (wn_on rfl rfl rfl) rfl rfl (yp rfl) HS (CW 7 gkr rfl (wn_on rfl rfl rfl) rfl rfl (B9 rfl rfl (sc rfl) (by assumption)) HS (CW 8 gkr rfl (wn_on rfl rfl rfl) rfl rfl (EY rfl rfl underlying9) HS (CW 9 gkr rfl (wn_on rfl rfl rfl) rfl rfl (m5 rfl rfl rfl A0) HS (CW 10 gkr rfl (wn_none rfl) rfl rfl (yp rfl) HS (CW 11 gkr rfl (wn_none rfl) rfl rfl (yp rfl) HS (CW 12 gkr rfl (wn_on rfl rfl rfl) rfl rfl (yp rfl) HS (CW 13 gkr rfl (wn_on rfl rfl rfl) rfl rfl (B9 rfl rfl (sc rfl) (by assumption)) HS (C5 14 (some 36) gkr rfl (wn_on rfl rfl rfl) rfl rfl (AE rfl rfl call102) (K0 v.text _ hm (hT.fr hw2)) ?_)))))))))
    rintro _ w3 ⟨rfl, hf3⟩
    have HS : Rd w3 (some ⟨g, 0, none⟩) 4 v.cells ∧ Cell w3.heap g 3 (str v.text) := ⟨(hrd.fr0 hf2.ofDrew).fr0 hf3, c3'.fr hf3 (fun hh => hh)⟩
    refine ⟨_, rfl, fun _ => HS, ?_⟩
    have hv : vOk v = utf v.text := by rw [hvk, ha]; simp [hl]
    rw [← hv]
    refine CW 15 gkr rfl (wn_none rfl) rfl rfl (yp rfl) HS (NM 16 gkr rfl rfl gkr (yb rfl (sxl_nil (qx_block_normal (qx_seq (sx_seq (AC rfl (AG rfl ?_))))))))
    cases hq : vOk v with
    | true =>
     exact sx_false rfl (sx_skip (qx_seq (AC rfl (gnr (gr1 rfl ⟨by rw [aS hq], hw2.trans hf3⟩)))))
    | false =>
     exact sx_true rfl (AC rfl (gnr (qx_then_ret (gr1 rfl ⟨by rw [S6 hq], hw2.trans hf3⟩))))
   ·have hv : vOk v = false := by rw [hvk, ha]; simp [hl]
    refine CW 5 gkr rfl (wn_none rfl) rfl rfl (yp rfl) HS (CW 6 gkr rfl (wn_on rfl rfl rfl) rfl rfl (yp rfl) HS (CW 7 gkr rfl (wn_on rfl rfl rfl) rfl rfl (B9 rfl rfl (sc rfl) (by assumption)) HS (CW 8 gkr rfl (wn_on rfl rfl rfl) rfl rfl (EY rfl rfl underlying9) HS (CW 9 gkr rfl (wn_on rfl rfl rfl) rfl rfl (m6 rfl rfl rfl A0) HS (CW 10 gkr rfl (wn_none rfl) rfl rfl (yp rfl) HS (CW 11 gkr rfl (wn_none rfl) rfl rfl (yp rfl) HS (G1 12 gkr rfl rfl rfl rfl rfl rfl rfl HS (G1 13 gkr rfl rfl rfl rfl rfl rfl rfl HS (G1 14 gkr rfl rfl rfl rfl rfl rfl rfl HS (CW 15 gkr rfl (wn_none rfl) rfl rfl (yp rfl) HS (NM 16 gkr rfl rfl gkr (yb rfl (sxl_nil (qx_block_normal (qx_seq ?_)))))))))))))))
    refine sx_seq (AC rfl (AG rfl (sx_true rfl (AC rfl (gnr (qx_then_ret (gr1 rfl ?_)))))))
    exact ⟨by rw [S6 hv], hw2⟩
 ·have k3' : (v.kind.toNat : Int) ≠ 3 := US (n := 3) k3
  have hv : vOk v = false := by unfold vOk; rw [if_neg k1, if_neg k2, if_neg k3]
  refine AG rfl (srg (AG rfl (sx_seq (AC rfl (yl rfl rfl (by assumption) (nq (sx_block ?_)))))))
  refine srg (ya rfl (HJ rfl rfl rfl A0) (AG rfl (sx_false rfl (srg (ya rfl (HJ rfl rfl rfl A0) (AG rfl (sx_false rfl (srg ?_))))))))
  refine ya rfl (HJ rfl rfl rfl A0) (AG rfl (sx_false rfl (sx_skip (qx_block_normal (qx_seq (sx_seq (AC rfl (AG rfl (sx_true rfl ?_)))))))))
  exact AC rfl (gnr (qx_then_ret (gr1 rfl ⟨by rw [S6 hv], hf⟩)))
theorem QV : tabL.length = 256 := by unfold tabL; simp
theorem fT : ∀ u ∈ tabL, u.oneCell' = true := by
 intro u hu
 obtain ⟨n, _, rfl⟩ := List.mem_map.1 hu
 rfl
theorem mQ {n : Nat} (h : n < 256) : tabL[n]? = some (.int .u8 (tabN n : Int)) := by unfold tabL; simp [h]
theorem ZF (c : UInt8) : tabN c.toNat = if FF c then 2 else if L2 c then 1 else 0 := by
 have h1 : (((decide (65 ≤ c.toNat) && decide (c.toNat ≤ 90)) || (decide (97 ≤ c.toNat) && decide (c.toNat ≤ 122))) = FF c) := by
  unfold FF; rw [Bool.or_comm]
 unfold tabN
 rw [h1]
 rfl
def zeroT : List Value := List.replicate 256 (.int .u8 0)
theorem XW : (prog.info? 195).map (·.zero) = some (some (.agg zeroT.toArray)) := by kernel_rfl
theorem XX : (prog.info? 195).map (·.size) = some 256 := by kernel_rfl
def GV (l : List UInt8) : Bool := l.all fun c => FF c || L2 c
theorem O1 : ∀ (i : Nat) (l : List UInt8), i ≠ 0 → IJ i l = GV l
 | _, [], _ => rfl
 | i, c :: l, h => by
  rw [IJ, O1 (i + 1) l A0, show (i != 0) = true by simp [h], Bool.and_true]
  rfl
theorem SR (c : UInt8) (l : List UInt8) : IJ 0 (c :: l) = (FF c && GV (c :: l)) := by
 rw [IJ, O1 1 l A0]
 show ((FF c || (L2 c && (0 != 0))) && GV l) = (FF c && ((FF c || L2 c) && GV l))
 cases FF c <;> cases L2 c <;> simp
theorem SY : zeroT.length = 256 := by unfold zeroT; rw [List.length_replicate]
theorem DJ (l : List UInt8) (w : World) (hm : (l.length : Int) < 4611686018427387904) : Calls prog 61 #[str l] w (BN w (.bool (BU l))) := by
 refine sx_enter (vs := [_]) func61 rfl ntmps61 rfl ?_
 by_cases h0 : l.length = 0
 ·have hno : BU l = false := by unfold BU; simp; omega
  refine srg (AG rfl (sx_seq (AC rfl (ya rfl (EY rfl rfl underlying9) (ya rfl (LT rfl rfl rfl A0) (yb rfl (yo rfl (yo rfl (yo rfl (yb rfl ?_))))))))))
  exact nq (sx_true rfl (AC rfl (gnr (qx_then_ret (gr1 rfl ⟨by rw [hno], Fr.refl⟩)))))
 by_cases h1 : 32 < l.length
 ·have hno : BU l = false := by unfold BU; simp; omega
  refine srg (AG rfl (sx_seq (AC rfl (ya rfl (EY rfl rfl underlying9) (ya rfl (HJ rfl rfl rfl A0) (yb rfl (gyq rfl (yd rfl (EY rfl rfl underlying9) (yd rfl (m8 rfl rfl rfl A0) (yb rfl ?_))))))))))
  exact nq (sx_true rfl (AC rfl (gnr (qx_then_ret (gr1 rfl ⟨by rw [hno], Fr.refl⟩)))))
 obtain ⟨c0, r0, hl⟩ : ∃ c0 r0, l = c0 :: r0 := List.exists_cons_of_ne_nil (by intro e; rw [e] at h0; exact h0 rfl)
 have hno : BU l = (FF c0 && GV l) := by
  have : IJ 0 l = (FF c0 && GV l) := by rw [hl]; exact SR c0 r0
  unfold BU; rw [this]; simp [show 1 ≤ l.length by omega, show l.length ≤ 32 by omega]
 have hc0 : l[0]? = some c0 := by rw [hl]; rfl
 refine srg (AG rfl (sx_seq (AC rfl (ya rfl (EY rfl rfl underlying9) (ya rfl (HJ rfl rfl rfl A0) (yb rfl (gyq rfl (yd rfl (EY rfl rfl underlying9) (yd rfl (m9 rfl rfl rfl A0) (yb rfl ?_))))))))))
 refine nq (sx_false rfl (sx_skip (qx_seq (srg (sxl_call (some 13) (by first | exact wn_none rfl | exact wn_on rfl rfl rfl) rfl rfl (AE rfl rfl call104) (XY _) ?_)))))
 rintro _ w1 ⟨rfl, hf1⟩
 refine ⟨_, rfl, sxl_does (some 3) (wn_none rfl) rfl rfl (fun ρ hρ => BW 195 rfl _ zeroT XW rfl) ?_⟩
 rintro _ w2 ⟨g, rfl, hg1, hg2, hb, hf2⟩
 refine sxl_does none (wn_none rfl) rfl rfl (fun ρ hρ => BH 195 (.tmp 3) (.tmp 13) rfl g 0 195 _ tabL (hρ _ _ rfl) (hρ _ _ rfl) hb (by rw [QV]; exact XX) (by rw [QV, SY]; omega) fT) ?_
 rintro _ w3 ⟨rfl, hb3, hf3⟩
 rw [FR zeroT tabL (by rw [QV, SY])] at hb3
 have hf : Fr0 w w3 := (hf1.trans hf2).step hf3 (fun k hk e => by have := hf1.size; omega)
 refine nq (sx_seq (AC rfl (ya rfl (EY rfl rfl underlying9) (AG rfl (sx_block ?_)))))
 have tcell : ∀ c : UInt8, Cell w3.heap g (0 + ((c.toNat : Int)).toNat * 1) (.int .u8 (tabN c.toNat : Int)) := fun c => by
  have := hb3.c c.toNat (mQ c.toNat_lt)
  simpa using this
 refine sx_loop (fun e wr m => ∃ (i : Nat), e = [(16, AA (i : Int)), (15, AA (l.length : Int)), (3, pg g), (0, str l)] ∧ w3 = wr ∧ i ≤ l.length ∧ GV (l.take i) = true ∧ m = l.length - i) ⟨0, rfl, rfl, Nat.zero_le _, rfl, rfl⟩ ⟨rfl, rfl, rfl, rfl, trivial⟩ ?_
 rintro _ _ _ ⟨i, rfl, rfl, hi, hok, rfl⟩
 by_cases hlt : i < l.length
 ·obtain ⟨c, hc⟩ : ∃ c, l[i]? = some c := ⟨_, List.getElem?_eq_getElem hlt⟩
  have h256 := c.toNat_lt
  have ct := tcell c
  have hsplit : l = l.take i ++ c :: l.drop (i + 1) := by
   have h1 : l.drop i = c :: l.drop (i + 1) := by
    rw [List.drop_eq_getElem_cons hlt]
    congr 1
    rw [List.getElem?_eq_getElem hlt] at hc
    exact Option.some.inj hc
   rw [← h1, List.take_append_drop]
  have htab := ZF c
  by_cases hz : tabN c.toNat = 0
  ·have hbad : GV l = false := by
    rw [hz] at htab
    have h3 : FF c = false := by cases hq : FF c with | false => rfl | true => rw [hq] at htab; simp at htab
    have h4 : L2 c = false := by cases hq : L2 c with | false => rfl | true => rw [h3, hq] at htab; simp at htab
    rw [hsplit]; unfold GV; simp [h3, h4]
   refine srg (ya rfl (Q5 rfl rfl rfl A0) (nq (sx_seq (sx_true rfl (sx_skip (qx_seq (sx_seq (sx_block (AC rfl (yb rfl (sxl_nil ?_)))))))))))
   refine qx_seq (AC rfl (yb rfl (ya rfl (G0 rfl rfl rfl underlying9 hc) (ya rfl (EA rfl rfl rfl (ar rfl) A0) (yl rfl rfl (by assumption) (ya rfl (LT rfl rfl rfl A0) (nq (sx_true rfl (AC rfl (sxl_nil ?_))))))))))
   exact qx_seq (sx_ret (qx_block_ret (qx_then_ret (qx_then_ret (qx_block_ret (qx_then_ret (gr1 rfl ⟨by rw [hno, hbad, Bool.and_false], hf⟩)))))))
  ·have hstep : GV (l.take (i + 1)) = true := by
    have h3 : (FF c || L2 c) = true := by
     cases hq : FF c with
     | true => rfl
     | false => cases hq2 : L2 c with
      | true => rfl
      | false => rw [hq, hq2] at htab; simp at htab; omega
    rw [List.take_add_one, hc]
    unfold GV at hok ⊢
    rw [List.all_append, hok]
    simpa using h3
   refine srg (ya rfl (Q5 rfl rfl rfl A0) (nq (sx_seq (sx_true rfl (sx_skip (qx_seq (sx_seq (sx_block (AC rfl (yb rfl (sxl_nil ?_)))))))))))
   refine qx_seq (AC rfl (yb rfl (ya rfl (G0 rfl rfl rfl underlying9 hc) (ya rfl (EA rfl rfl rfl (ar rfl) A0) (yl rfl rfl (by assumption) (ya rfl (HJ rfl rfl rfl A0) (nq (sx_false rfl (sx_skip (qx_block_normal (qx_seq (sx_region ?_))))))))))))
   exact C1 rfl rfl (yb rfl (sxl_nil (fag ⟨i + 1, rfl, rfl, by omega, hstep, rfl⟩)))
 ·obtain rfl : i = l.length := by omega
  rw [List.take_length] at hok
  have h256 := c0.toNat_lt
  have ct := tcell c0
  have htab := ZF c0
  cases hlet : FF c0 with
  | true =>
   rw [hlet] at htab
   have h2 : tabN c0.toNat = 2 := htab
   refine srg (ya rfl (Q6 rfl rfl rfl A0) (nq (sx_seq (sx_false rfl (sx_exit (qx_then_exit (qx_then_exit (qx_block_hit (qx_seq (AC rfl (ya rfl (G0 (m := 0) rfl rfl rfl underlying9 hc0) ?_)))))))))))
   exact ya rfl (EA rfl rfl rfl (ar rfl) A0) (yl rfl rfl (by assumption) (ya rfl (LT rfl rfl rfl A0) (yb rfl (gnr (gr1 rfl ⟨by rw [hno, hlet, hok]; rfl, hf⟩)))))
  | false =>
   rw [hlet] at htab
   have h2 : tabN c0.toNat ≠ 2 := by rw [htab]; cases L2 c0 <;> simp
   refine srg (ya rfl (Q6 rfl rfl rfl A0) (nq (sx_seq (sx_false rfl (sx_exit (qx_then_exit (qx_then_exit (qx_block_hit (qx_seq (AC rfl (ya rfl (G0 (m := 0) rfl rfl rfl underlying9 hc0) ?_)))))))))))
   exact ya rfl (EA rfl rfl rfl (ar rfl) A0) (yl rfl rfl (by assumption) (ya rfl (HJ rfl rfl rfl A0) (yb rfl (gnr (gr1 rfl ⟨by rw [hno, hlet]; rfl, hf⟩)))))
section
inductive Xn
 | zero
 | lit (v : Vl)
 | var (s : List UInt8)
 | un (op : UInt8) (a : Xn)
 | bin (op : UInt8) (a b : Xn)
def Xn.op : Xn → UInt8
 | .zero => 0
 | .lit _ => 1
 | .var _ => 2
 | .un o _ => o
 | .bin o _ _ => o
def Xn.vl : Xn → Vl
 | .lit v => v
 | _ => zeroVl
def Xn.nm : Xn → List UInt8
 | .var s => s
 | _ => []
def Xn.nk : Xn → Nat
 | .un _ _ => 1
 | .bin _ _ _ => 2
 | _ => 0
def Xn.cells (n : Xn) (A : Option Addr) : List Value := [.int .u8 (n.op.toNat : Int), .int .u8 (n.vl.kind.toNat : Int), .int .i64 n.vl.int, .bool n.vl.bool, str n.vl.text, str n.nm, .slice A n.nk n.nk]
def Xn.leaf : Xn → Bool
 | .un _ _ => false
 | .bin _ _ _ => false
 | _ => true
theorem Xn.nk_leaf {n : Xn} (h : n.leaf = true) : n.nk = 0 := by cases n <;> first | rfl | cases h
def C9 (b : UInt8) : Bool := decide ((48 : Int) ≤ (b.toNat : Int)) && decide ((b.toNat : Int) ≤ 57)
def ET (b : UInt8) : Bool := decide ((97 : Int) ≤ ((b ||| 32).toNat : Int)) && decide (((b ||| 32).toNat : Int) ≤ 122)
def CN (b : UInt8) : Bool := ET b || C9 b || decide ((b.toNat : Int) = 45) || decide ((b.toNat : Int) = 95) || decide ((b.toNat : Int) = 46)
def signTab : List (List UInt8 × (UInt8 × Nat)) := [([111, 114], (6, 1)), ([97, 110, 100], (5, 2)), ([61], (7, 4)), ([33, 61], (8, 4)), ([60], (9, 4)), ([60, 61], (10, 4)), ([62], (11, 4)), ([62, 61], (12, 4)), ([43], (13, 5)), ([45], (14, 5)), ([42], (15, 6)), ([47], (16, 6)), ([37], (17, 6))]
def VT : List (List UInt8 × (UInt8 × Nat)) → List UInt8 → Option (UInt8 × Nat)
 | [], _ => none
 | (k', v) :: r, k => if k = k' then some v else VT r k
def AO (s : List UInt8) : Option (UInt8 × Nat) := VT signTab s
def JC (s : List UInt8) : Bool := decide (s = [97, 110, 100]) || decide (s = [111, 114]) || decide (s = [110, 111, 116]) || decide (s = [116, 114, 117, 101]) || decide (s = [102, 97, 108, 115, 101])
structure Lx where
 at_ : Nat
 nd : Xn
 say : List UInt8
 tat : Nat
 fin : Bool
 e : Int
 wh : Nat
def Lx.cells (s : List UInt8) (x : Lx) : List Value := [str s, .int .i64 (x.at_ : Int), .int .u8 (x.nd.op.toNat : Int), .int .u8 (x.nd.vl.kind.toNat : Int), .int .i64 x.nd.vl.int, .bool x.nd.vl.bool, str x.nd.vl.text, str x.nd.nm, .slice none 0 0, str x.say, .int .i64 (x.tat : Int), .bool x.fin, .int .i64 x.e, .int .i64 (x.wh : Int)]
def Lx.fail (x : Lx) (e : Int) (p : Nat) : Lx := if x.e = 0 then { x with e := e, wh := p } else x
def N2 (l : List UInt8) : List UInt8 := l.dropWhile (fun b => b == 32)
section
variable (s : List UInt8) (fr : Nat → Lx → Xn × Lx)
end
def lx0 : Lx := ⟨0, .zero, [], 0, false, 0, 0⟩
end
def hG (p : UInt8 × Nat) : Value := .agg #[.int .u8 (p.1.toNat : Int), .int .i64 (p.2 : Int)]
def DN : List (List UInt8 × Value) := signTab.map fun p => (p.1, hG p.2)
theorem OX (k : List UInt8) : ∀ l : List (List UInt8 × (UInt8 × Nat)), BP (l.map fun p => (p.1, hG p.2)) k = (VT l k).map hG
 | [] => rfl
 | (k', v) :: r => by
  rw [List.map_cons, BP, VT]
  by_cases h : k = k'
  ·rw [if_pos h, if_pos h]; rfl
  ·rw [if_neg h, if_neg h]; exact OX k r
theorem E7 (k : List UInt8) : (BP DN k).getD (.agg #[.int .u8 0, AA 0]) = .agg #[.int .u8 (((AO k).getD (0, 0)).1.toNat : Int), AA ((((AO k).getD (0, 0)).2 : Nat) : Int)] := by
 unfold DN AO
 rw [OX]
 cases VT signTab k <;> rfl
theorem GP (k : List UInt8) : (BP DN k).isSome = (AO k).isSome := by
 unfold DN AO
 rw [OX]
 cases VT signTab k <;> rfl
theorem jN (v : List UInt8) : ([[97, 110, 100], [111, 114], [110, 111, 116], [116, 114, 117, 101], [102, 97, 108, 115, 101]].any (fun z => decide (v = z))) = JC v := by
 simp only [List.any_cons, List.any_nil, JC, Bool.or_false, Bool.or_assoc]
theorem PB (a0 : Int) (a2 : Bool) : prog.built 100 [(0, .int .u8 a0), (2, .bool a2)] = some #[.int .u8 a0, AA 0, .bool a2, str []] := by kernel_rfl
theorem EK (a0 : Int) (c1_0 c1_1 c1_2 c1_3 : Value) : prog.built 112 [(0, .int .u8 a0), (1, .agg #[c1_0, c1_1, c1_2, c1_3])] = some #[.int .u8 a0, c1_0, c1_1, c1_2, c1_3, str [], .slice none 0 0] := by kernel_rfl
theorem PA (a0 : Int) (a2 : List UInt8) : prog.built 112 [(0, .int .u8 a0), (2, str a2)] = some #[.int .u8 a0, .int .u8 0, AA 0, .bool false, str [], str a2, .slice none 0 0] := by kernel_rfl
theorem C0 (a0 : Int) (a1 : Int) : prog.built 174 [(0, .int .u8 a0), (1, AA a1)] = some #[.int .u8 a0, AA a1] := by kernel_rfl
theorem K1 : (prog.info? 51).map (·.size) = some 1 := by kernel_rfl
theorem FW : (prog.info? 322).map (·.size) = some 1 := by kernel_rfl
theorem FN : (prog.info? 9).map (·.size) = some 1 := by kernel_rfl
theorem EI (s : List UInt8) (x : Lx) (gx : Nat) (er : Int) (p : Nat) (w : World) (hb : Blk w gx 168 (Lx.cells s x)) :
 Calls prog 83 #[pg gx, AA er, AA (p : Int)] w fun e w' => e = .returned (.tuple #[]) ∧ Blk w' gx 168 (Lx.cells s (x.fail er p)) ∧ Fr (fun k => k = gx) w w' := by
 refine sx_enter (vs := [_, _, _]) func83 rfl ntmps83 rfl ?_
 have M : Mem w (fun k => k = gx) [As.blk gx 168 (Lx.cells s x)] w := Mem.one hb
 refine AC rfl (AV rfl rfl (B2 M 0 rfl rfl rfl (C7 rfl rfl (nq (AF rfl (fun h10 => ?_) (fun h10 => ?_))))))
 ·have h10p := (odt h10)
  refine sx_region ?_
  iterate 6 refine yb rfl ?_
  exact gp1 M 0 rfl rfl rfl K1 fun w1 M => AV rfl rfl (gp1 M 0 rfl rfl rfl FW fun w2 M => sxl_nil (qx_ret0 (Or.inr rfl) rfl ⟨rfl, by rw [Lx.fail, if_pos h10p]; exact M.blk 0 rfl, M.fr⟩))
 ·have h10p := (odf h10)
  exact sx_skip (qx_ret0 (Or.inr rfl) rfl ⟨rfl, by rw [Lx.fail, if_neg h10p]; exact M.blk 0 rfl, M.fr⟩)
theorem S3 (b : UInt8) (w : World) : Calls prog 140 #[.int .u8 (b.toNat : Int)] w (BN w (.bool (C9 b))) := by
 refine BL func140 ntmps140 rfl fun M => srg (AG rfl (AC rfl (J2 rfl rfl (yb rfl (fvm M 3 [2] [(8, .bool ((decide (48 ≤ (b.toNat : Int))) && (decide ((b.toNat : Int) ≤ 57))))] ?_ (fun k5 => ?_))))))
 ·intro w1 M
  exact yb rfl (gnr (gr1 rfl ⟨rfl, M.fr⟩))
 refine AD (d := 5) rfl (fun h5 => ?_) (fun h5 => ?_)
 ·exact gyq rfl (yd rfl (G8 rfl rfl rfl) (yb rfl (k5 M ⟨rfl, (by rw [h5]; rfl), trivial⟩)))
 ·exact yo rfl (yo rfl (yb rfl (k5 M ⟨rfl, (by rw [h5]; rfl), trivial⟩)))
theorem TK (b : UInt8) (w : World) : Calls prog 143 #[.int .u8 (b.toNat : Int)] w (BN w (.bool (ET b))) := by
 refine BL func143 ntmps143 rfl fun M => srg (AG rfl (AC rfl (ya rfl (pO (b := b) (c := 32) rfl rfl rfl) (J2 rfl rfl (yb rfl (fvm M 4 [2] [(10, .bool ((decide (97 ≤ ((b ||| 32).toNat : Int))) && (decide (((b ||| 32).toNat : Int) ≤ 122))))] ?_ (fun k6 => ?_)))))))
 ·intro w1 M
  exact yb rfl (gnr (gr1 rfl ⟨rfl, M.fr⟩))
 refine AD (d := 6) rfl (fun h6 => ?_) (fun h6 => ?_)
 ·exact gyq rfl (yd rfl (pO (b := b) (c := 32) rfl rfl rfl) (yd rfl (G8 rfl rfl rfl) (yb rfl (k6 M ⟨rfl, (by rw [h6]; rfl), trivial⟩))))
 ·exact yo rfl (yo rfl (yo rfl (yb rfl (k6 M ⟨rfl, (by rw [h6]; rfl), trivial⟩))))
theorem dL (b : UInt8) (w : World) : Calls prog 144 #[.int .u8 (b.toNat : Int)] w (BN w (.bool (CN b))) := by
 refine BL func144 ntmps144 rfl fun M => srg (AG rfl (AC rfl (DV M 4 rfl rfl call143 (TK _ _) fun w1 M => yb rfl (fvm M 3 [2, 0] [(8, .bool ((ET b) || (C9 b)))] ?_ (fun k5 => ?_)))))
 ·intro w2 M
  refine yb rfl (fvm M 3 [2, 0] [(12, .bool (((ET b) || (C9 b)) || (decide ((b.toNat : Int) = 45))))] ?_ (fun k9 => ?_))
  ·intro w3 M
   refine yb rfl (fvm M 3 [2, 0] [(16, .bool ((((ET b) || (C9 b)) || (decide ((b.toNat : Int) = 45))) || (decide ((b.toNat : Int) = 95))))] ?_ (fun k13 => ?_))
   ·intro w4 M
    refine yb rfl (fvm M 3 [2] [(20, .bool (((((ET b) || (C9 b)) || (decide ((b.toNat : Int) = 45))) || (decide ((b.toNat : Int) = 95))) || (decide ((b.toNat : Int) = 46))))] ?_ (fun k17 => ?_))
    ·intro w5 M
     exact yb rfl (gnr (gr1 rfl ⟨rfl, M.fr⟩))
    refine AD (d := 17) rfl (fun h17 => ?_) (fun h17 => ?_)
    ·exact yo rfl (yo rfl (yb rfl (k17 M ⟨rfl, (by rw [h17]; rfl), trivial⟩)))
    ·exact gyq rfl (yd rfl (BO rfl rfl rfl) (yb rfl (k17 M ⟨rfl, (by rw [h17]; rfl), trivial⟩)))
   refine AD (d := 13) rfl (fun h13 => ?_) (fun h13 => ?_)
   ·exact yo rfl (yo rfl (yb rfl (k13 M ⟨rfl, rfl, (by rw [h13]; rfl), trivial⟩)))
   ·exact gyq rfl (yd rfl (BO rfl rfl rfl) (yb rfl (k13 M ⟨rfl, rfl, (by rw [h13]; rfl), trivial⟩)))
  refine AD (d := 9) rfl (fun h9 => ?_) (fun h9 => ?_)
  ·exact yo rfl (yo rfl (yb rfl (k9 M ⟨rfl, rfl, (by rw [h9]; rfl), trivial⟩)))
  ·exact gyq rfl (yd rfl (BO rfl rfl rfl) (yb rfl (k9 M ⟨rfl, rfl, (by rw [h9]; rfl), trivial⟩)))
 refine AD (d := 5) rfl (fun h5 => ?_) (fun h5 => ?_)
 ·exact yo rfl (yo rfl (yb rfl (k5 M ⟨rfl, rfl, (by rw [h5]; rfl), trivial⟩)))
 ·refine gyq rfl (sxl_call (some 7) (wn_on rfl rfl rfl) rfl rfl (AE rfl rfl call140) (S3 _ _) ?_)
  rintro _ w6 ⟨rfl, hfw6⟩
  refine ⟨_, rfl, ?_⟩
  have M := M.step hfw6
  exact yb rfl (k5 M ⟨rfl, rfl, (by rw [h5]; rfl), trivial⟩)
theorem oL (A : Option Addr) (c : Nat) (l : List (List UInt8)) (v : List UInt8) (w : World) (hl : l.length ≤ 4611686018427387904) (hR : Rd w A (l.length * 1) (AB BK l)) :
 Calls prog 93 #[.slice A l.length c, str v] w (BN w (AA (ixJ (fun _ z => decide (v = z)) 0 l))) := by
 refine BL func93 ntmps93 rfl fun M => srg (AG rfl (sx_seq (AC rfl (DP rfl rfl (AG rfl (sx_block (MX M [7, 1, 0] (fun ze zF e wr mz => ∃ (i : Nat), e = (8, AA (i : Int)) :: ze ∧ zF wr ∧ (i ≤ l.length) ∧ (ixJ (fun _ z => decide (v = z)) 0 l = ixJ (fun _ z => decide (v = z)) i (l.drop i)) ∧ mz = l.length - i) ⟨0, rfl, M, Nat.zero_le _, rfl, rfl⟩ ?_)))))))
 rintro _ w1 _ ⟨i, rfl, M, hi, hr, rfl⟩
 refine srg (BM rfl rfl (nq (sx_seq (AF rfl (fun h9 => ?_) (fun h9 => ?_)))))
 ·have h9p := (odt h9)
  refine sx_skip (qx_seq (sx_seq (sx_block (AC rfl (AG rfl (AC rfl (AV rfl rfl ?_)))))))
  obtain ⟨x, hx⟩ := BZ (l := l) (i := i) A0
  obtain ⟨b_x, o_x, hA_x⟩ := B7 (k := 1) A0 (hR.fr0 M.fr) hx
  refine ya rfl (AP i hA_x rfl rfl rfl (sl rfl) A0) (yl rfl rfl (E5 FD (hR.fr0 M.fr) hA_x hx 0 rfl) (ya rfl (CS rfl rfl rfl) (nq (AF rfl (fun h16 => ?_) (fun h16 => ?_)))))
  ·exact AC rfl (yb rfl (gnr (qx_block_ret (qx_then_ret (qx_then_ret (qx_block_ret (qx_then_ret (gr1 rfl ⟨by rw [hr, B0 hx, ixJ, if_pos h16], M.fr⟩))))))))
  ·have h16p := (odf h16)
   refine sx_skip (qx_block_normal (qx_seq (sx_region (C1 rfl rfl (yb rfl (sxl_nil (fag ⟨i + 1, rfl, M, ?_, ?_, rfl⟩)))))))
   ·omega
   ·rw [hr, B0 hx, ixJ, AS h16]
 ·have h9p := (odf h9)
  refine sx_exit (qx_then_exit (qx_then_exit (qx_block_hit (qx_seq (AC rfl (gnr (gr1 rfl ?_)))))))
  obtain rfl : i = l.length := by omega
  exact ⟨by rw [hr, List.drop_length]; rfl, M.fr⟩
theorem XB (A : Option Addr) (c : Nat) (l : List (List UInt8)) (v : List UInt8) (w : World) (hl : l.length ≤ 4611686018427387904) (hR : Rd w A (l.length * 1) (AB BK l)) :
 Calls prog 51 #[.slice A l.length c, str v] w (BN w (.bool (l.any (fun z => decide (v = z))))) := by
 refine BL func51 ntmps51 rfl fun M => srg (AG rfl (AC rfl (yb rfl (DV M 7 rfl rfl call93 (oL _ _ l _ _ (by first | omega | decide) (hR.fr0 M.fr)) fun w1 M => J2 rfl rfl (yb rfl (gnr ?_))))))
 exact gr1 rfl ⟨by rw [J1], M.fr⟩
theorem HU (w : World) :
 Calls prog 87 #[] w fun e w' => ∃ g, e = .returned (.map (some g)) ∧ Mp w' g DN ∧ w.heap.size ≤ g ∧ Fr0 w w' := by
 refine BL func87 ntmps87 rfl fun M => srg (AG rfl (srg (HL M (wn_none rfl) rfl rfl rfl fun g1 w1 hg1 M => ya rfl (AY (parts := [(0, _), (1, _)]) rfl rfl (C0 _ _)) (DM M 0 (wn_none rfl) rfl rfl rfl rfl rfl underlying176 underlying9 rfl fun w2 M => ya rfl (AY (parts := [(0, _), (1, _)]) rfl rfl (C0 _ _)) (DM M 0 (wn_none rfl) rfl rfl rfl rfl rfl underlying176 underlying9 rfl fun w3 M => ?_)))))
 refine ya rfl (AY (parts := [(0, _), (1, _)]) rfl rfl (C0 _ _)) (DM M 0 (wn_none rfl) rfl rfl rfl rfl rfl underlying176 underlying9 rfl fun w4 M => ya rfl (AY (parts := [(0, _), (1, _)]) rfl rfl (C0 _ _)) (DM M 0 (wn_none rfl) rfl rfl rfl rfl rfl underlying176 underlying9 rfl fun w5 M => ya rfl (AY (parts := [(0, _), (1, _)]) rfl rfl (C0 _ _)) (DM M 0 (wn_none rfl) rfl rfl rfl rfl rfl underlying176 underlying9 rfl fun w6 M => ya rfl (AY (parts := [(0, _), (1, _)]) rfl rfl (C0 _ _)) (DM M 0 (wn_none rfl) rfl rfl rfl rfl rfl underlying176 underlying9 rfl fun w7 M => ya rfl (AY (parts := [(0, _), (1, _)]) rfl rfl (C0 _ _)) (DM M 0 (wn_none rfl) rfl rfl rfl rfl rfl underlying176 underlying9 rfl fun w8 M => ya rfl (AY (parts := [(0, _), (1, _)]) rfl rfl (C0 _ _)) ?_)))))
 refine DM M 0 (wn_none rfl) rfl rfl rfl rfl rfl underlying176 underlying9 rfl fun w9 M => ya rfl (AY (parts := [(0, _), (1, _)]) rfl rfl (C0 _ _)) (DM M 0 (wn_none rfl) rfl rfl rfl rfl rfl underlying176 underlying9 rfl fun w10 M => ya rfl (AY (parts := [(0, _), (1, _)]) rfl rfl (C0 _ _)) (DM M 0 (wn_none rfl) rfl rfl rfl rfl rfl underlying176 underlying9 rfl fun w11 M => ya rfl (AY (parts := [(0, _), (1, _)]) rfl rfl (C0 _ _)) (DM M 0 (wn_none rfl) rfl rfl rfl rfl rfl underlying176 underlying9 rfl fun w12 M => ya rfl (AY (parts := [(0, _), (1, _)]) rfl rfl (C0 _ _)) (DM M 0 (wn_none rfl) rfl rfl rfl rfl rfl underlying176 underlying9 rfl fun w13 M => ya rfl (AY (parts := [(0, _), (1, _)]) rfl rfl (C0 _ _)) (DM M 0 (wn_none rfl) rfl rfl rfl rfl rfl underlying176 underlying9 rfl ?_)))))
 intro w14 M
 exact AV rfl rfl (gnr (gr1 rfl ⟨_, rfl, M.mp 0 rfl, hg1, M.fr⟩))
theorem O6 (v : List UInt8) (w : World) :
 Calls prog 174 #[str v] w (BN w (.bool (JC v))) := by
 refine BL func174 ntmps174 rfl fun M => srg (AG rfl (srg (CU M (wn_none rfl) rfl rfl [str [97, 110, 100], str [111, 114], str [110, 111, 116], str [116, 114, 117, 101], str [102, 97, 108, 115, 101]] ([str [97, 110, 100], str [111, 114], str [110, 111, 116], str [116, 114, 117, 101], str [102, 97, 108, 115, 101]]) rfl rfl rfl rfl underlying48 CP rfl rfl (by intro v hv; simp only [List.mem_cons, List.not_mem_nil, or_false] at hv; rcases hv with rfl | rfl | rfl | rfl | rfl <;> rfl) rfl fun g3 w1 hg3 M => yb rfl (DV M 5 rfl rfl call51 (XB _ _ [[97, 110, 100], [111, 114], [110, 111, 116], [116, 114, 117, 101], [102, 97, 108, 115, 101]] _ _ (by first | omega | decide) (M.rdBlk 0 rfl rfl)) fun w2 M => yb rfl (gnr ?_)))))
 exact gr1 rfl ⟨by rw [jN], M.fr⟩
def EE (t : List UInt8) (x : Lx) : Lx := (if ((decide (t = [116, 114, 117, 101])) || (decide (t = [102, 97, 108, 115, 101]))) = true then (⟨x.at_, .lit ⟨2, 0, (decide (t = [116, 114, 117, 101])), []⟩, x.say, x.tat, x.fin, x.e, x.wh⟩ : Lx) else (if (JC t) = true then (⟨x.at_, x.nd, t, x.tat, x.fin, x.e, x.wh⟩ : Lx) else (if (!(BU t)) = true then (x.fail 4 x.at_) else (⟨x.at_, .var t, x.say, x.tat, x.fin, x.e, x.wh⟩ : Lx))))
theorem d6 (s : List UInt8) (x : Lx) (gx : Nat) (t : List UInt8) (w : World) (hb : Blk w gx 168 (Lx.cells s x)) (ht : (t.length : Int) < 4611686018427387904) :
 Calls prog 145 #[pg gx, str t] w fun e w' => e = .returned (.tuple #[]) ∧ Blk w' gx 168 (Lx.cells s (EE t x)) ∧ Fr (fun k => k = gx) w w' := by
 refine sx_enter (vs := [_, _]) func145 rfl ntmps145 rfl ?_
 have M : Mem w (fun k => k = gx) [As.blk gx 168 (Lx.cells s x)] w := Mem.one hb
 refine sx_block (AC rfl (ya rfl (CS rfl rfl rfl) (yb rfl (K3 3 [(1, str t), (0, pg gx), (16, .bool ((decide (t = [116, 114, 117, 101])) || (decide (t = [102, 97, 108, 115, 101]))))] (fun w' => Mem w (fun k => k = gx) [As.blk gx 168 (Lx.cells s x)] w') ?_ (fun k13 => ?_)))))
 ·intro w1 M
  refine AG rfl (AF (b := ((decide (t = [116, 114, 117, 101])) || (decide (t = [102, 97, 108, 115, 101])))) rfl (fun h10 => ?_) (fun h10 => ?_))
  ·have h10p := ((E6 h10).imp (fun z => (odt z)) (fun z => (odt z)))
   exact sx_region (AV rfl rfl (ya rfl (CS rfl rfl rfl) (ya rfl (AY (parts := [(0, _), (2, _)]) rfl rfl (PB _ _)) (ya rfl (AY (parts := [(0, _), (1, _)]) rfl rfl (EK _ _ _ _ _)) (AV rfl rfl (yb rfl (GN (cs' := [str s, AA (x.at_ : Int), .int .u8 1, .int .u8 2, AA 0, .bool (decide (t = [116, 114, 117, 101])), str [], str [], .slice none 0 0, str x.say, AA (x.tat : Int), .bool x.fin, AA x.e, AA (x.wh : Int)]) M 0 (wn_none rfl) rfl rfl rfl rfl rfl AI rfl (D0 rfl) (BG rfl) rfl fun w2 M => sxl_nil (qx_block_normal (qx_ret0 (Or.inr rfl) rfl ⟨rfl, by rw [EE, if_pos h10]; exact M.blk 0 rfl, M.fr⟩)))))))))
  ·have h10p := (And.intro (odf (BT h10).1) (odf (BT h10).2))
   refine AC rfl (MC M 27 rfl (AE rfl rfl call174) (O6 _ _) fun w3 M => AG rfl (AF (b := (JC t)) rfl (fun h25 => ?_) (fun h25 => ?_)))
   ·refine sx_region ?_
    iterate 5 refine yb rfl ?_
    exact CF (cs' := [str s, AA (x.at_ : Int), .int .u8 (x.nd.op.toNat : Int), .int .u8 (x.nd.vl.kind.toNat : Int), AA x.nd.vl.int, .bool x.nd.vl.bool, str x.nd.vl.text, str x.nd.nm, .slice none 0 0, str t, AA (x.tat : Int), .bool x.fin, AA x.e, AA (x.wh : Int)]) M 0 (wn_none rfl) rfl rfl rfl rfl rfl rfl rfl FN (BR rfl) rfl fun w4 M => sxl_nil (qx_block_normal (qx_ret0 (Or.inr rfl) rfl ⟨rfl, by rw [EE, AS h10, if_pos h25]; exact M.blk 0 rfl, M.fr⟩))
   ·refine AC rfl (MC M 35 rfl (AE rfl rfl call61) (DJ _ _ (by omega)) fun w5 M => yb rfl (AG rfl (AF (b := (!(BU t))) rfl (fun h33 => ?_) (fun h33 => ?_))))
    ·have h33p := (BY h33)
     refine sx_region ?_
     iterate 4 refine yb rfl ?_
     refine yl rfl rfl (M.cell 0 rfl rfl) (cl 42 rfl (AE rfl rfl call83) (EI s _ _ _ _ _ (M.blk 0 rfl)) ?_)
     rintro _ w6 ⟨rfl, hbw6, hfw6⟩
     have M := M.putB 0 rfl hbw6 hfw6
     exact ⟨_, rfl, sxl_nil (qx_block_normal (qx_ret0 (Or.inr rfl) rfl ⟨rfl, by rw [EE, AS h10, AS h25, if_pos h33]; exact M.blk 0 rfl, M.fr⟩))⟩
    ·have h33p := (BJ h33)
     exact sx_region (AV rfl rfl (ya rfl (AY (parts := [(0, _), (2, _)]) rfl rfl (PA _ _)) (AV rfl rfl (yb rfl (GN (cs' := [str s, AA (x.at_ : Int), .int .u8 2, .int .u8 0, AA 0, .bool false, str [], str t, .slice none 0 0, str x.say, AA (x.tat : Int), .bool x.fin, AA x.e, AA (x.wh : Int)]) M 0 (wn_none rfl) rfl rfl rfl rfl rfl AI rfl (D0 rfl) (BG rfl) rfl fun w7 M => sxl_nil (qx_block_normal (qx_ret0 (Or.inr rfl) rfl ⟨rfl, by rw [EE, AS h10, AS h25, AS h33]; exact M.blk 0 rfl, M.fr⟩)))))))
 refine AD (d := 13) (b := (decide (t = [116, 114, 117, 101]))) rfl (fun h13 => ?_) (fun h13 => ?_)
 ·exact yo rfl (yo rfl (yb rfl (k13 _ _ M ⟨rfl, rfl, (by rw [h13]; rfl), trivial⟩)))
 ·exact yd rfl (yp rfl) (yd rfl (CS rfl rfl rfl) (yb rfl (k13 _ _ M ⟨rfl, rfl, (by rw [h13]; rfl), trivial⟩)))
end Go.Proofs.YtaheakjfkpkefaaGreatDoor
