/- Lemmas that the last text rests on. Condition: each says its own. -/
import Derived.Test.YtadgfojhjnkliaaGreatDoorZb3
import Derived.LoopNIn
import Derived.TacticsIn
import Derived.OrdersIn
import Derived.RangeFuncCalls
import Derived.RangeFuncLeaves
import Derived.RangeFuncRecord
import Derived.Orders
set_option maxHeartbeats 16000000
set_option maxRecDepth 100000
namespace Go.Proofs.YtadgfojhjnkliaaGreatDoor
open Go.RowKit
noncomputable section
section
section
variable {P : Program} {G : Nat} {o : Oper} {e : Tb Value} {h h' : Hp} {nx nx' : Nat} {v : Value}
theorem WP {σ : Sg} {b : Nat} {k x : Value} : ∀ {bs : List Nat} {l : List (Value × Value)} {es : List MapEntry}, TA b bs l = some (k, x) → VRs σ (l.map (·.1)) (es.map (·.key)) → VRs σ (l.map (·.2)) (es.map (·.val)) → es.map (·.born) = bs →
 ∃ en, es.find? (fun e => e.born == b) = some en ∧ VR σ k en.key ∧ VR σ x en.val
 | [], _, _, hf, _, _, _ => by simp [TA] at hf
 | _ :: _, [], _, hf, _, _, _ => by simp [TA] at hf
 | _ :: _, _ :: _, [], _, _, _, h3 => by cases h3
 | c :: bs, p :: l, en :: es, hf, h1, h2, h3 => by
  simp only [List.map_cons, List.cons.injEq] at h3
  obtain ⟨y, ys, e1, h4, h5⟩ := h1.inv
  injection e1 with e1 e2; subst e1; subst e2
  obtain ⟨z, zs, e1, h6, h7⟩ := h2.inv
  injection e1 with e1 e2; subst e1; subst e2
  unfold TA at hf
  cases hc : Nat.beq c b with
  | true =>
   rw [hc, CG] at hf; injection hf with hf
   have := Nat.eq_of_beq_eq_true hc
   refine ⟨en, by simp [h3.1, this], ?_, ?_⟩
   ·rw [show k = p.1 by rw [hf]]; exact h4
   ·rw [show x = p.2 by rw [hf]]; exact h6
  | false =>
   rw [hc, BV] at hf
   obtain ⟨en', h8, h9, h10⟩ := WP hf h5 h7 h3.2
   refine ⟨en', ?_, h9, h10⟩
   have : ¬ en.born = b := fun hh => by rw [h3.1] at hh; subst hh; simp at hc
   simp [this, h8]
theorem YT {x : Operand} (ho : o.op = .entry x) (hm : NQ h nx (evO G e x) = .ok v h' nx') : Good P G o e h nx v h' nx' := by
 unfold NQ at hm
 split at hm
 ·rename_i id h1
  split at hm
  ·rename_i mid since seen last hb
   split at hm
   ·rename_i cl bs l b hmb hla
    obtain ⟨hcl, hm⟩ := BE hm (by simp)
    have hcl := Nat.eq_of_beq_eq_true hcl
    split at hm
    ·rename_i kk vv hf
     obtain ⟨rfl, rfl, rfl⟩ := BF hm
     refine BC fun σ w ρ oe m => ?_
     obtain ⟨L, hL, hx⟩ := (oe x _ h1).ptr_inv
     obtain ⟨L', hL', hb0, r, hr, _, hbk⟩ := m.blk id _ hb
     rw [hL] at hL'; injection hL' with hL'; subst hL'
     obtain ⟨L2, hL2, rfl⟩ := hr mid rfl
     obtain ⟨L3, hL3, es, hbk2, k1, k2, k3⟩ := m.blk mid _ hmb
     rw [hL2] at hL3; injection hL3 with hL3; subst hL3
     obtain ⟨en, h4, h5, h6⟩ := WP hf k1 k2 k3
     rw [hb0] at hx
     have h4' : es.find? (fun e => e.born == b) = some en := by rw [← Array.find?_toList]; exact h4
     have hlast : (⟨seen⟩ : Array Nat).back? = some b := by simpa using hla
     refine ⟨.tuple #[en.key, en.val], .tuple (xs := [_, _]) (ys := [_, _]) (.cons h5 h6) .nil, ?_⟩
     unfold execOp
     simp only [ho, hx, Instr.entry, getObj, Sem.run_bind, Sem.run, hbk, hbk2, Result.andThen_ok, hlast, hcl, h4', bne_self_eq_false, Bool.false_eq_true, if_false]
     rfl
    ·cases hm
   ·cases hm
  ·cases hm
 ·cases hm
theorem S6 {t : TypeId} {mp k : Operand} (ho : o.op = .mapEntry t mp k) (hm : KK P h nx t (evO G e mp) (evO G e k) = .ok v h' nx') : Good P G o e h nx v h' nx' := by
 unfold KK at hm
 simp only [F2, J7, DN] at hm
 split at hm
 ·rename_i id kv h1 h2
  split at hm
  ·rename_i el clock bs l hkt hb
   obtain ⟨kt, d, hu, hd, hsc, hck⟩ := QZ hkt
   have fin : ∀ (σ : Sg) (w : World) (ρ : Operand → Value) (L : Loc) (es : Array MapEntry) (es' : Array MapEntry) (clock' : Nat) (bs' : List Nat) (l' : List (Value × Value)) (a u : Value) (b : Nat), MR G σ h.get nx w → σ id = some L → w.heap[L.blk]? = some (.map es clock) → VR σ a u →
    (Instr.mapEntry t (.map (some L.blk)) kv).run P w = .ok (.tuple #[u, goInt b]) { w with heap := w.heap.setIfInBounds L.blk (.map es' clock') } → ρ mp = .map (some L.blk) → ρ k = kv → VRs σ (l'.map (·.1)) (es'.toList.map (·.key)) → VRs σ (l'.map (·.2)) (es'.toList.map (·.val)) → es'.toList.map (·.born) = bs' →
    G8 P ρ o w fun x w' => ∃ σ', VR σ' (.tuple ⟨[a, .int .i64 (.ofNat b)]⟩) x ∧ Tr G σ h.get nx w σ' (h.put id (.map clock' bs' l')).get nx w' := by
    intro σ w ρ L es es' clock' bs' l' a u b m hL hbk hau hrun hmp hkv hk1 hk2 hk3
    refine ⟨.tuple #[u, goInt b], { w with heap := w.heap.setIfInBounds L.blk (.map es' clock') }, .inl ?_, σ, .tuple (xs := [_, _]) (ys := [_, _]) (.cons hau VR.int) .nil, ?_⟩
    ·unfold execOp
     simp only [ho, hmp, hkv, Sem.run_bind, hrun, Result.andThen_ok]
     rfl
    ·rw [Tb.put_fun]
     have hlt : L.blk < w.heap.size := (Array.getElem?_eq_some_iff.1 hbk).1
     exact m.upd hb hL ⟨es', by simp [hlt], hk1, hk2, hk3⟩ ⟨rfl, rfl, rfl⟩ (by simp) (fun r hr => by simp [Array.getElem?_setIfInBounds_ne (Ne.symm hr)])
   split at hm
   ·rename_i j a hf
    split at hm
    ·rename_i b hbj
     obtain ⟨rfl, rfl, rfl⟩ := BF hm
     intro σ w ρ oe m
     obtain ⟨L, hL, hmp⟩ := (oe mp _ h1).map_inv
     obtain ⟨L', hL', es, hbk, h4, h5, h5b⟩ := m.blk id _ hb
     rw [hL] at hL'; injection hL' with hL'; subst hL'
     obtain ⟨r', h6, h7⟩ := IE hu hd hkt l es.toList 0 hf h4 h5
     cases r' with
     | none => exact h7.elim
     | some p =>
      obtain ⟨j', u⟩ := p
      obtain ⟨rfl, _, hjl, hv, en, hen, hkey⟩ := h7
      rw [Nat.sub_zero] at hen hjl
      have hkv := (oe k _ h2).scal_inv hsc
      have hfk := GX (P := P) hd h6 w
      have hena : es[j]? = some en := by simpa using hen
      have hold : ((es[j]?).map (·.key)).getD kv = kv := by rw [hena]; exact hkey
      have hborn : (((es[j]?).map fun x => (x.born : Int)).getD 0) = (b : Int) := by
       rw [hena]
       rw [← h5b, List.getElem?_map, hen] at hbj
       have : en.born = b := by simpa using hbj
       simp [this]
      have hsame : (es.modify j fun e => { e with key := kv }) = es := by
       apply Array.ext'
       rw [Array.toList_modify]
       apply List.ext_getElem?
       intro i
       rw [List.getElem?_modify]
       by_cases hij : j = i
       ·subst hij
        rw [hen]
        simp only [if_true, Option.map_eq_map, Option.map_some]
        rw [← hkey]
       ·simp [hij]
      refine fin σ w ρ L es es clock bs l a u b m hL hbk hv ?_ hmp hkv h4 h5 h5b
      unfold Instr.mapEntry
      simp only [Sem.run_bind, run_underlying hu, Result.andThen_ok, ET hbk, hck, hfk, hold, hborn, Instr.keyThatStays, R0 10000 hkt, if_true, Sem.run_pure, hsame]
      unfold setObj
      simp only [Sem.run, hbk, Result.andThen_ok]
    ·cases hm
   ·rename_i hf
    split at hm
    ·rename_i z hz
     obtain ⟨rfl, rfl, rfl⟩ := BF hm
     intro σ w ρ oe m
     obtain ⟨i, hi, hiz, hfl⟩ := CP hz
     obtain ⟨L, hL, hmp⟩ := (oe mp _ h1).map_inv
     obtain ⟨L', hL', es, hbk, h4, h5, h5b⟩ := m.blk id _ hb
     rw [hL] at hL'; injection hL' with hL'; subst hL'
     obtain ⟨r', h6, h7⟩ := IE hu hd hkt l es.toList 0 hf h4 h5
     cases r' with
     | some p => exact h7.elim
     | none =>
      have hkv := (oe k _ h2).scal_inv hsc
      refine fin σ w ρ L es (es.push { key := kv, val := z, born := clock }) (clock + 1) (bs ++ [clock]) (l ++ [(kv, z)]) z z clock m hL hbk (VR.of_flat hfl) ?_ hmp hkv ?_ ?_ ?_
      ·have hfk := GX (P := P) hd h6 w
       unfold Instr.mapEntry
       have hzr : (zeroValue el).run P w = .ok z w := by simp [zeroValue, typeInfo, hi, hiz]
       simp only [Sem.run_bind, run_underlying hu, Result.andThen_ok, ET hbk, hck, hfk, hzr]
       unfold setObj
       simp only [Sem.run, hbk, Result.andThen_ok]
       rfl
      ·rw [List.map_append, Array.toList_push, List.map_append]
       exact h4.append (by have := oe k _ h2; rw [hkv] at this; exact this)
      ·rw [List.map_append, Array.toList_push, List.map_append]
       exact h5.append (VR.of_flat hfl)
      ·rw [← h5b]; simp
    ·cases hm
   ·cases hm
  ·cases hm
 ·cases hm
theorem VO : ∀ (l : List (Value × Value)) (i : Nat) (x : Value), (cT l i x).map (·.1) = l.map (·.1)
 | [], _, _ => rfl
 | p :: l, 0, x => rfl
 | p :: l, i + 1, x => by show p.1 :: (cT l i x).map (·.1) = p.1 :: l.map (·.1); rw [VO l i x]
theorem VN : ∀ (l : List (Value × Value)) (i : Nat) (x : Value), (cT l i x).map (·.2) = (l.map (·.2)).set i x
 | [], _, _ => rfl
 | p :: l, 0, x => rfl
 | p :: l, i + 1, x => by show p.2 :: (cT l i x).map (·.2) = p.2 :: (l.map (·.2)).set i x; rw [VN l i x]
theorem aT {b : Nat} : ∀ {es : List MapEntry} {i j : Nat}, o7 b (es.map (·.born)) i = some j → ∃ j', j = i + j' ∧ es.findIdx? (fun e => (e.born : Int) == (b : Int)) = some j' ∧ j' < es.length
 | [], i, j, hf => by cases hf
 | en :: es, i, j, hf => by
  have hf : bo (Nat.beq en.born b) (some i) (o7 b (es.map (·.born)) (i + 1)) = some j := hf
  cases hc : Nat.beq en.born b with
  | true =>
   rw [hc, CG] at hf; injection hf with hf
   have := Nat.eq_of_beq_eq_true hc
   exact ⟨0, by omega, by simp [List.findIdx?_cons, this], by simp⟩
  | false =>
   rw [hc, BV] at hf
   obtain ⟨j', h1, h2, h3⟩ := aT hf
   have : ¬ (en.born : Int) = (b : Int) := fun hh => by
    have : en.born = b := by omega
    subst this; simp at hc
   exact ⟨j' + 1, by omega, by simp [List.findIdx?_cons, this, h2], by simp; omega⟩
theorem P8 {t : TypeId} {mp s x : Operand} (ho : o.op = .entryStore t mp s x) (hm : IS h nx (evO G e mp) (evO G e s) (evO G e x) = .ok v h' nx') : Good P G o e h nx v h' nx' := by
 unfold IS at hm
 simp only [F2, J7] at hm
 split at hm
 ·rename_i id ik b xv h1 h2 h3
  split at hm
  ·rename_i cl bs l hb
   split at hm
   ·rename_i i hi
    obtain ⟨rfl, rfl, rfl⟩ := BF hm
    intro σ w ρ oe m
    obtain ⟨L, hL, hmp⟩ := (oe mp _ h1).map_inv
    obtain ⟨L', hL', es, hbk, h4, h5, h5b⟩ := m.blk id _ hb
    rw [hL] at hL'; injection hL' with hL'; subst hL'
    have hs := (oe s _ h2).scal_inv rfl
    subst h5b
    obtain ⟨j', hj, hfi, hjl⟩ := aT hi
    obtain rfl : i = j' := by omega
    have hfi' : es.findIdx? (fun e => (e.born : Int) == (b : Int)) = some i := by
     obtain ⟨el⟩ := es
     simpa using hfi
    have hrun : (Instr.entryStore t (.map (some L.blk)) (.int ik (.ofNat b)) (ρ x)).run P w = .ok () { w with heap := w.heap.setIfInBounds L.blk (.map (es.modify i fun e => { e with val := ρ x }) cl) } := by
     have e1 : (Int.ofNat b) = (b : Int) := rfl
     unfold Instr.entryStore
     simp only [Sem.run_bind, Sem.run_pure, Result.andThen_ok, ET hbk, asInt, asIntOf, e1, hfi']
     unfold setObj
     simp only [Sem.run, hbk]
    refine ⟨undef, { w with heap := w.heap.setIfInBounds L.blk (.map (es.modify i fun e => { e with val := ρ x }) cl) }, .inr ⟨?_, rfl⟩, σ, VR.undef, ?_⟩
    ·unfold execOp
     simp only [ho, hmp, hs, Sem.run_bind, hrun, Result.andThen_ok]
     rfl
    ·rw [Tb.put_fun]
     have hlt : L.blk < w.heap.size := (Array.getElem?_eq_some_iff.1 hbk).1
     have ek : ((es.modify i fun e => { e with val := ρ x }).toList.map (·.key)) = es.toList.map (·.key) := by
      apply List.ext_getElem?
      intro i'
      rw [Array.toList_modify, List.getElem?_map, List.getElem?_modify, List.getElem?_map]
      by_cases hij : i = i'
      ·subst hij; cases es.toList[i]? <;> simp
      ·simp [hij]
     have ev : ((es.modify i fun e => { e with val := ρ x }).toList.map (·.val)) = (es.toList.map (·.val)).set i (ρ x) := by
      apply List.ext_getElem?
      intro i'
      rw [Array.toList_modify, List.getElem?_map, List.getElem?_modify, List.getElem?_set, List.getElem?_map]
      by_cases hij : i = i'
      ·subst hij
       rw [List.getElem?_eq_getElem hjl]
       simp
       simpa using hjl
      ·simp [hij]
     have eb : ((es.modify i fun e => { e with val := ρ x }).toList.map (·.born)) = es.toList.map (·.born) := by
      apply List.ext_getElem?
      intro i'
      rw [Array.toList_modify, List.getElem?_map, List.getElem?_modify, List.getElem?_map]
      by_cases hij : i = i'
      ·subst hij; cases es.toList[i]? <;> simp
      ·simp [hij]
     refine m.upd hb hL ⟨es.modify i fun e => { e with val := ρ x }, by simp [hlt], ?_, ?_, eb⟩ ⟨rfl, rfl, rfl⟩ (by simp) (fun r hr => by simp [Array.getElem?_setIfInBounds_ne (Ne.symm hr)])
     ·rw [VO, ek]; exact h4
     ·rw [VN, ev]; exact h5.set i (oe x _ h3)
   ·cases hm
  ·cases hm
 ·cases hm
end
end
section
structure ER (σ : Sg) (n : Nat) (e : Tb Value) (a : Act) : Prop where
 size : a.tmps.size = n
 get : ∀ k v, e.get k = some v → ∃ u, a.tmps[k]? = some u ∧ VR σ v u
def V4 (P : Program) (G : Nat) (call : CallF) : Prop := ∀ f args h nx v h' nx', call f args h nx = .ok v h' nx' →
 ∀ σ w us, VRs σ args us → MR G σ h.get nx w → Calls P f ⟨us⟩ w fun x w' => ∃ σ' u, x = .returned u ∧ VR σ' v u ∧ Tr G σ h.get nx w σ' h'.get nx' w'
def rF : Option Nat → Fence
 | none => Fence.wide
 | some l => Fence.wide.inRound l
theorem QC (rd : Option Nat) (f : FuncId) : (rF rd).fn f := by cases rd <;> trivial
theorem QD (rd : Option Nat) : (rF rd).depth = none := by cases rd <;> rfl
theorem gZ (rd : Option Nat) : (rF rd).round = rd := by cases rd <;> rfl
def tN (P : Program) (G : Nat) (call : CallF) : Prop := ∀ l args h nx v h' nx', call (P.funcs.size + l) args h nx = .ok v h' nx' →
 ∀ σ w us, VRs σ args us → MR G σ h.get nx w → ∃ (L : Loc) (r : Loop), σ l = some L ∧ w.heap[L.blk]? = some (.loop r) ∧ us.length = r.params.size ∧
  RoundIn Fence.wide 2 P L.blk r.fn ((r.params.zip (⟨us⟩ : Array Value)).foldl (fun tmps (t, a) => tmps.setIfInBounds t a) r.tmps) r.assign r.body w (fun x w' => ∃ σ' u, x = .returned u ∧ VR σ' v u ∧ Tr G σ h.get nx w σ' h'.get nx' w')
structure CallsOk (P : Program) (G : Nat) (call : CallF) : Prop where
 fn : ∀ f args h nx v h' nx', f < P.funcs.size → call f args h nx = .ok v h' nx' → ∀ σ w us, VRs σ args us → MR G σ h.get nx w → Calls P f ⟨us⟩ w fun x w' => ∃ σ' u, x = .returned u ∧ VR σ' v u ∧ Tr G σ h.get nx w σ' h'.get nx' w'
 rnd : tN P G call
def Mk (b0 : Nat) (σ : Sg) (h : Hf) (w : World) (ds : List Deferred) : Prop :=
 ∃ bs : List Nat, ds = bs.map (fun b => { target := .collected b, args := #[] }) ∧ bs.Nodup ∧ ∀ b ∈ bs, b0 ≤ b ∧ b < w.heap.size ∧ w.heap[b]? = some (.deferred (some [])) ∧ ∀ id L, (h id).isSome = true → σ id = some L → L.blk ≠ b
theorem Mk.nil {b0 : Nat} {σ : Sg} {h : Hf} {w : World} : Mk b0 σ h w [] := ⟨[], rfl, List.nodup_nil, fun _ hb => by cases hb⟩
theorem Mk.tr {G b0 nx nx' : Nat} {σ σ' : Sg} {h h' : Hf} {w w' : World} {ds : List Deferred} (mk : Mk b0 σ h w ds) (t : Tr G σ h nx w σ' h' nx' w') : Mk b0 σ' h' w' ds := by
 obtain ⟨bs, h1, h2, h3⟩ := mk
 refine ⟨bs, h1, h2, fun b hb => ?_⟩
 obtain ⟨h4, h5, h6, h7⟩ := h3 b hb
 refine ⟨h4, Nat.lt_of_lt_of_le h5 t.size, (t.fr b h5 h7).trans h6, fun id L hi hs he => ?_⟩
 rcases t.src id L hi hs with h8 | ⟨id0, L0, h8, h9, h10⟩
 ·omega
 ·exact h7 id0 L0 h8 h9 (h10.trans he)
def Post (G : Nat) (n b0 : Nat) (σ : Sg) (h : Hp) (nx : Nat) (w : World) (Q : Exit → Act → World → Prop) : Out → Prop
 | .bad => False
 | .nrm e' h' nx' => ∀ σ' w' a', Tr G σ h.get nx w σ' h'.get nx' w' → ER σ' n e' a' → Mk b0 σ' h'.get w' a'.defers → Q .normal a' w'
 | .ext id e' h' nx' => ∀ σ' w' a', Tr G σ h.get nx w σ' h'.get nx' w' → ER σ' n e' a' → Mk b0 σ' h'.get w' a'.defers → Q (.exit id) a' w'
 | .ret e' h' nx' => ∀ σ' w' a', Tr G σ h.get nx w σ' h'.get nx' w' → ER σ' n e' a' → Mk b0 σ' h'.get w' a'.defers → Q .ret a' w'
section
variable {P : Program} {G n b0 : Nat} {rd : Option Nat} {σ : Sg} {e e' : Tb Value} {h h' : Hp} {nx nx' : Nat} {w w' : World} {a : Act} {Q : Exit → Act → World → Prop} {call : CallF} {v u : Value}
theorem ER.mono {σ' : Sg} (er : ER σ n e a) (hs : σ.le σ') : ER σ' n e a := ⟨er.size, fun k v hk => let ⟨u, hu, hr⟩ := er.get k v hk; ⟨u, hu, hr.mono hs⟩⟩
theorem ER.oe (er : ER σ n e a) (m : MR G σ h.get nx w) : OE σ G e a.eval := by
 intro x v hx
 cases x with
 | tmp t =>
  obtain ⟨u, hu, hr⟩ := er.get t v hx
  have : a.eval (.tmp t) = u := by simp [Act.eval, hu]
  rw [this]; exact hr
 | const c =>
  obtain ⟨hf, hx⟩ := BE (show bo (O0 c) (some c) none = some v from hx) (by simp)
  injection hx with hx; subst hx
  exact VR.of_flat hf
 | global g =>
  obtain ⟨hg, hx⟩ := BE (show bo (Nat.blt g G) (some (Value.pointer (some ⟨g, 0, none⟩))) none = some v from hx) (by simp)
  injection hx with hx; subst hx
  obtain ⟨k, hk⟩ := m.glob g (AZ hg)
  exact .ptr (L := ⟨g, 0, k⟩) hk .nil
 | func f =>
  injection (show some (Value.func (.func f) ⟨[]⟩ ⟨[]⟩) = some v from hx) with hx; subst hx
  exact .func f .nil .nil .nil
theorem NM (n : Nat) (e : Tb Value) (d : Nat) (v : Value) : QP n e (some d) v = bo (Nat.blt d n) (some (e.put d v)) none := by
 show bo (Nat.blt d n) (q8 v (fun v => IX e d v some)) none = _
 rw [mA, F2]
theorem ER.put (er : ER σ n e a) {d : Option Tmp} (hp : QP n e d v = some e') (hv : VR σ v u) : ER σ n e' (a.put d u) := by
 cases d with
 | none => injection hp with hp; subst hp; exact er
 | some d =>
  rw [NM] at hp
  obtain ⟨hd, hp⟩ := BE hp (by simp)
  injection hp with hp; subst hp
  have hd := AZ hd
  refine ⟨by simp [Act.put, er.size], fun k x hk => ?_⟩
  rw [Tb.get_put] at hk
  simp only [Act.put]
  by_cases hkd : k = d
  ·subst hkd
   rw [if_pos rfl] at hk; injection hk with hk; subst hk
   exact ⟨u, by rw [Array.getElem?_setIfInBounds_self_of_lt (by rw [er.size]; exact hd)], hv⟩
  ·rw [if_neg hkd] at hk
   rw [Array.getElem?_setIfInBounds_ne (Ne.symm hkd)]
   exact er.get k x hk
theorem WE {ops : Array Oper} {o : Oper} {g : Nat × Bool} {b : Bool} (er : ER σ n e a) (hg : o.guard = some g) (hb : GL ops e g = some b) : Region.wanted o (yielded ops a.tmps) = b := by
 unfold GL at hb
 split at hb
 ·rename_i d hd
  split at hb
  ·rename_i c hc
   injection hb with hb; subst hb
   obtain ⟨u, hu, hr⟩ := er.get d _ hc
   have := hr.scal_inv rfl
   subst this
   obtain ⟨j, want⟩ := g
   simp only at hd
   simp [Region.wanted, hg, yielded, hd, hu]
  ·rename_i hc
   injection hb with hb; subst hb
   obtain ⟨u, hu, hr⟩ := er.get d _ hc
   obtain ⟨ys, rfl, hys⟩ := hr.tuple_inv
   obtain ⟨j, want⟩ := g
   simp only at hd
   simp [Region.wanted, hg, yielded, hd, hu]
  ·cases hb
 ·cases hb
theorem LN (a : Act) (d : Option Tmp) (v : Value) : (a.put d v).defers = a.defers := by cases d <;> rfl
theorem Good.wpIn {o : Oper} {K : Act → World → Prop} (hnd : ∀ c, o.op ≠ .defer c) (hg : Good P G o e h nx v h' nx') (er : ER σ n e a) (m : MR G σ h.get nx w) (k : ∀ σ' u w', VR σ' v u → Tr G σ h.get nx w σ' h'.get nx' w' → K (a.put o.dst u) w') : o.wpIn (rF rd) 2 P a w K Q := by
 refine ⟨fun f _ => QC rd f, ?_⟩
 rw [Oper.semAt_eq _ _ _ hnd]
 obtain ⟨u, w', hr | ⟨hr, rfl⟩, σ', hv, ht⟩ := hg σ w a.eval (er.oe m) m
 ·rw [hr]; exact k σ' u w' hv ht
 ·rw [hr]; exact k σ' _ w' hv ht
theorem XA {f : FuncId} (hb : OX P f = true) (ar : Array Value) (w : World) : (callFunc f ar).run P w = .ok (.enter f ar) w := by
 unfold OX at hb
 split at hb
 ·rename_i fn hf
  simp only [Bool.and_eq_true, Bool.not_eq_true'] at hb
  have h1 : fn.name ≠ "runtime.NumGoroutine" := fun hh => by rw [hh] at hb; simp at hb
  have h2 : fn.body ≠ none := fun hh => by rw [hh] at hb; simp at hb
  unfold callFunc
  simp [hf, h1, h2]
 ·cases hb
theorem XB {f : FuncId} (hb : OX P f = true) : f < P.funcs.size := by
 unfold OX at hb
 split at hb
 ·rename_i fn hf; exact (Array.getElem?_eq_some_iff.1 hf).1
 ·cases hb
theorem X8 {f : FuncId} {args : Array Value} {R : Ending → World → Prop} (h : Calls P f args w R) (k : Nat) : CallsIn (rF rd) k P f args w R := by
 cases rd with
 | none => exact callsIn_wide.2 h
 | some l => exact CallsIn.inRound l (callsIn_wide.2 h)
theorem gX {l : Nat} {f : FuncId} {tmps : Array Value} {asg body : Code} {R : Ending → World → Prop} (h : RoundIn Fence.wide 2 P l f tmps asg body w R) (k : Nat) : RoundIn (rF rd) k P l f tmps asg body w R := by
 refine ⟨QC rd f, fun c cs _ => ?_⟩
 have := h.2 c cs (room_wide _)
 cases rd <;> exact this
theorem oR {o : Oper} {c : Call} {f : Operand} {K : Act → World → Prop} (hc : CallsOk P G call) (ho : o.op = .call c) (hcal : c.callee = .value f) (hm : KB P call h nx (evO G e f) (evL G e c.args.toList) = .ok v h' nx') (er : ER σ n e a) (m : MR G σ h.get nx w)
 (k : ∀ σ' u w', VR σ' v u → Tr G σ h.get nx w σ' h'.get nx' w' → K (a.put o.dst u) w') : o.wpIn (rF rd) 2 P a w K Q := by
 refine ⟨fun f _ => QC rd f, ?_⟩
 rw [Oper.semAt_eq _ _ _ (fun c hh => by rw [ho] at hh; cases hh)]
 unfold KB at hm
 split at hm
 ·rename_i fi xs cs vs h1 h2
  obtain ⟨hb, hm⟩ := BE hm (by simp)
  have oe := er.oe m
  obtain ⟨ys, ys', hu, hx, hx'⟩ := (oe f _ h1).func_inv
  have hargs := oe.list h2
  have hcall := hc.fn fi _ h nx v h' nx' (XB hb) hm σ w _ (hx.append (hargs.append hx')) m
  have hrun : (execOp a.eval o).run P w = .ok (.enter fi ⟨ys ++ (c.args.toList.map a.eval ++ ys')⟩) w := by
   have e1 : (⟨ys ++ (c.args.toList.map a.eval ++ ys')⟩ : Array Value) = ((⟨ys⟩ : Array Value) ++ c.args.map a.eval) ++ (⟨ys'⟩ : Array Value) := by
    apply Array.ext'; simp
   unfold execOp
   simp only [ho, resolve, hcal, hu, Deferred.ofValue, Sem.run_bind, Sem.run_pure, Result.andThen_ok, invoke, XA hb, e1]
  rw [hrun]
  refine ⟨fun hd => by rw [QD] at hd; (cases hd), (X8 hcall 1).mono fun x w' hR => ?_⟩
  obtain ⟨σ', u, rfl, hv, ht⟩ := hR
  exact k σ' u w' hv ht
 ·rename_i l vs h1 h2
  rw [DN] at hm
  have oe := er.oe m
  obtain ⟨L0, hL0, hu⟩ := (oe f _ h1).yld_inv
  obtain ⟨L, r, hL, hh, hlen, hround⟩ := hc.rnd l _ h nx v h' nx' hm σ w _ (oe.list h2) m
  rw [hL0] at hL; injection hL with hL; subst hL
  have hrun : (execOp a.eval o).run P w = (Instr.yield L0.blk ((⟨[]⟩ : Array Value) ++ c.args.map a.eval)).run P w := by
   unfold execOp
   simp only [ho, resolve, hcal, hu, Deferred.ofValue, Sem.run_bind, Sem.run_pure, Result.andThen_ok, invoke]
  have e1 : ((⟨[]⟩ : Array Value) ++ c.args.map a.eval) = ⟨c.args.toList.map a.eval⟩ := by
   apply Array.ext'; simp
  rw [hrun, e1, run_yield (P := P) hh (by simpa using hlen)]
  refine ⟨fun hd => by rw [QD] at hd; (cases hd), (gX hround 1).mono fun x w' hR => ?_⟩
  obtain ⟨σ', u, rfl, hv, ht⟩ := hR
  exact k σ' u w' hv ht
 ·cases hm
theorem UZ {o : Oper} {c : Call} {b : Builtin} (ho : o.op = .call c) (hcal : c.callee = .builtin b) (hm : E5 P G e h nx o b c.args.toList c.argTypes.toList = .ok v h' nx') : Good P G o e h nx v h' nx' := by
 have hsel : ∀ cs b, o.op ≠ .select cs b := fun cs b hh => by rw [ho] at hh; cases hh
 obtain ⟨callee, args, argTypes⟩ := c
 simp only at hcal hm
 subst hcal
 unfold E5 at hm
 split at hm
 ·rename_i x t h1 h2
  obtain rfl := oZ h1; obtain rfl := oZ h2
  exact j2 ho hm
 ·rename_i s x t u h1 h2
  obtain rfl := oY h1; obtain rfl := oY h2
  split at hm
  ·rename_i el hu; exact XJ ho (.inl ⟨el, hu⟩) hm
  ·rename_i hu; exact XJ ho (.inr hu) hm
  ·cases hm
 ·rename_i d x t u h1 h2
  obtain rfl := oY h1; obtain rfl := oY h2
  exact eS ho hm
 ·rename_i x t h1 h2
  obtain rfl := oZ h1; obtain rfl := oZ h2
  exact YZ ho hm
 ·exact ED hsel hm
 ·exact ED hsel hm
 ·cases hm
theorem YD {o : Oper} {K : Act → World → Prop} (hc : CallsOk P G call) (hm : mOp P G call e h nx o = .ok v h' nx') (er : ER σ n e a) (m : MR G σ h.get nx w)
 (k : ∀ σ' u w', VR σ' v u → Tr G σ h.get nx w σ' h'.get nx' w' → K (a.put o.dst u) w') : o.wpIn (rF rd) 2 P a w K Q := by
 rw [NN] at hm
 unfold sOp at hm
 cases ho : o.op <;> rw [ho] at hm
 case move => exact (SX (.inl ho) hm).wpIn (fun c hh => by rw [ho] at hh; cases hh) er m k
 case assign => exact (SX (.inr ho) hm).wpIn (fun c hh => by rw [ho] at hh; cases hh) er m k
 case pick => exact (d9 ho hm).wpIn (fun c hh => by rw [ho] at hh; cases hh) er m k
 case alloc => exact (Z8 ho hm).wpIn (fun c hh => by rw [ho] at hh; cases hh) er m k
 case box => exact (l9 ho hm).wpIn (fun c hh => by rw [ho] at hh; cases hh) er m k
 case build => exact (Z3 ho hm).wpIn (fun c hh => by rw [ho] at hh; cases hh) er m k
 case buildSlice => exact (P9 ho hm).wpIn (fun c hh => by rw [ho] at hh; cases hh) er m k
 case insert => exact (OC (.inr ho) hm).wpIn (fun c hh => by rw [ho] at hh; cases hh) er m k
 case load => exact (dV ho hm).wpIn (fun c hh => by rw [ho] at hh; cases hh) er m k
 case store => exact (XT ho hm).wpIn (fun c hh => by rw [ho] at hh; cases hh) er m k
 case nilCheck => exact (iR ho hm).wpIn (fun c hh => by rw [ho] at hh; cases hh) er m k
 case binOp => exact (lE ho hm).wpIn (fun c hh => by rw [ho] at hh; cases hh) er m k
 case unOp => exact (ED (fun cs b hh => by rw [ho] at hh; cases hh) hm).wpIn (fun c hh => by rw [ho] at hh; cases hh) er m k
 case convert => exact (eT ho hm).wpIn (fun c hh => by rw [ho] at hh; cases hh) er m k
 case sliceToArrayPointer => exact (lL ho hm).wpIn (fun c hh => by rw [ho] at hh; cases hh) er m k
 case makeInterface => exact (YN ho hm).wpIn (fun c hh => by rw [ho] at hh; cases hh) er m k
 case makeFunc => exact (eE ho hm).wpIn (fun c hh => by rw [ho] at hh; cases hh) er m k
 case makeMap => exact (U9 ho hm).wpIn (fun c hh => by rw [ho] at hh; cases hh) er m k
 case makeSlice => exact (QL ho hm).wpIn (fun c hh => by rw [ho] at hh; cases hh) er m k
 case slice => exact (XV ho hm).wpIn (fun c hh => by rw [ho] at hh; cases hh) er m k
 case fieldAddr => exact (RA ho hm).wpIn (fun c hh => by rw [ho] at hh; cases hh) er m k
 case field => exact (YS ho hm).wpIn (fun c hh => by rw [ho] at hh; cases hh) er m k
 case indexAddr => exact (R3 ho hm).wpIn (fun c hh => by rw [ho] at hh; cases hh) er m k
 case index => exact (YL ho hm).wpIn (fun c hh => by rw [ho] at hh; cases hh) er m k
 case lookup => exact (W9 ho hm).wpIn (fun c hh => by rw [ho] at hh; cases hh) er m k
 case mapUpdate => exact (OC (.inl ho) hm).wpIn (fun c hh => by rw [ho] at hh; cases hh) er m k
 case range => exact (XZ ho hm).wpIn (fun c hh => by rw [ho] at hh; cases hh) er m k
 case next => exact (dI ho hm).wpIn (fun c hh => by rw [ho] at hh; cases hh) er m k
 case mapEntry => exact (S6 ho hm).wpIn (fun c hh => by rw [ho] at hh; cases hh) er m k
 case entryStore => exact (P8 ho hm).wpIn (fun c hh => by rw [ho] at hh; cases hh) er m k
 case entry => exact (YT ho hm).wpIn (fun c hh => by rw [ho] at hh; cases hh) er m k
 case extract => exact (US ho hm).wpIn (fun c hh => by rw [ho] at hh; cases hh) er m k
 case call c =>
  have hm : (match c.callee with
   | .value f => KB P call h nx (evO G e f) (evL G e c.args.toList)
   | .builtin b => E5 P G e h nx o b c.args.toList c.argTypes.toList
   | _ => .bad) = .ok v h' nx' := hm
  split at hm
  ·rename_i f hcal; exact oR hc ho hcal hm er m k
  ·rename_i b hcal; exact (UZ ho hcal hm).wpIn (fun c hh => by rw [ho] at hh; cases hh) er m k
  ·cases hm
 all_goals cases hm
theorem iV {o : Oper} {K : Act → World → Prop} {kf : ContF} {r : Out} (hc : CallsOk P G call) (hm : QM P G n call o e h nx kf = r) (hr : r ≠ .bad) (er : ER σ n e a) (m : MR G σ h.get nx w)
 (k : ∀ σ' a' w' e' h' nx', kf e' h' nx' = r → Tr G σ h.get nx w σ' h'.get nx' w' → ER σ' n e' a' → a'.defers = a.defers → K a' w') : o.wpIn (rF rd) 2 P a w K Q := by
 unfold QM at hm
 cases ho : mOp P G call e h nx o with
 | bad => rw [ho] at hm; exact absurd hm.symm hr
 | ok v h' nx' =>
  rw [ho] at hm
  obtain ⟨e', hp, hm⟩ := D9 (show oo (QP n e o.dst v) .bad (fun e' => kf e' h' nx') = r from hm) (fun hh => hr hh.symm)
  exact YD hc ho er m fun σ' u w' hv ht => k σ' _ w' e' h' nx' hm ht ((er.mono ht.ext).put hp hv) (LN _ _ _)
theorem Post.shift {σ' : Sg} {r : Out} (hp : Post G n b0 σ h nx w Q r) (ht : Tr G σ h.get nx w σ' h'.get nx' w') : Post G n b0 σ' h' nx' w' Q r := by
 cases r with
 | bad => exact hp
 | nrm e1 h1 n1 => exact fun σ1 w1 a1 t1 r1 => hp σ1 w1 a1 (ht.trans t1) r1
 | ext id e1 h1 n1 => exact fun σ1 w1 a1 t1 r1 => hp σ1 w1 a1 (ht.trans t1) r1
 | ret e1 h1 n1 => exact fun σ1 w1 a1 t1 r1 => hp σ1 w1 a1 (ht.trans t1) r1
theorem UD {ops : Array Oper} (hc : CallsOk P G call) : ∀ (l : List Oper) {e : Tb Value} {h : Hp} {nx : Nat} {σ : Sg} {a : Act} {w : World} {r : Out}, YB P G n call ops l e h nx = r → ER σ n e a → MR G σ h.get nx w → Mk b0 σ h.get w a.defers → Post G n b0 σ h nx w Q r → wpListIn (rF rd) 2 P ops Q l a w
 | [], e, h, nx, σ, a, w, r, hm, er, m, mk, hp => by
  subst hm
  exact wpListIn_nil (hp σ w a (Tr.refl m) er mk)
 | o :: l, e, h, nx, σ, a, w, r, hm, er, m, mk, hp => by
  have hr : r ≠ .bad := fun hh => by rw [hh] at hp; exact hp
  have hm : oo o.guard (QM P G n call o e h nx (YB P G n call ops l)) (fun g => oo (GL ops e g) .bad (fun b => bo b (QM P G n call o e h nx (YB P G n call ops l)) (pD n o e h nx (YB P G n call ops l)))) = r := hm
  have run : Region.wanted o (yielded ops a.tmps) = true → QM P G n call o e h nx (YB P G n call ops l) = r → wpListIn (rF rd) 2 P ops Q (o :: l) a w := fun hw hs => by
   unfold wpListIn
   rw [if_pos hw]
   exact iV hc hs hr er m fun σ' a' w' e' h' nx' h1 h2 h3 h4 => UD hc l h1 h3 h2.mr (by rw [h4]; exact mk.tr h2) (hp.shift h2)
  cases hg : o.guard with
  | none =>
   rw [hg, U5] at hm
   exact run (by simp [Region.wanted, hg]) hm
  | some g =>
   rw [hg, HU] at hm
   obtain ⟨b, hb, hm⟩ := D9 hm (fun hh => hr hh.symm)
   have hw := WE (ops := ops) er hg hb
   cases b with
   | true => exact run hw hm
   | false =>
    rw [BV] at hm
    obtain ⟨e', hpt, hm⟩ := D9 (show oo (QP n e o.dst undef) .bad (fun e' => YB P G n call ops l e' h nx) = r from hm) (fun hh => hr hh.symm)
    unfold wpListIn
    rw [if_neg (by simp [hw])]
    exact ⟨fun f _ => QC rd f, UD hc l hm (er.put hpt VR.undef) m (by rw [LN]; exact mk) hp⟩
def FF (P : Program) (G n : Nat) (rd : Option Nat) (f : ContF) (c : Code) : Prop := ∀ e h nx σ a w Q b0, ER σ n e a → MR G σ h.get nx w → Mk b0 σ h.get w a.defers → b0 ≤ w.heap.size → Post G n b0 σ h nx w Q (f e h nx) → c.wpIn (rF rd) 2 P Q a w
def XK (P : Program) (G n : Nat) (dr : RegF) : Prop := ∀ rd id ops, FF P G n rd (dr ops) (.region id ops true)
theorem mW {f g : ContF} {x y : Code} (hx : FF P G n rd f x) (hy : FF P G n rd g y) : FF P G n rd (tM f g) (.seq x y) := fun e h nx σ a w Q b0 er m mk hb hp => by
 refine wpIn_seq (hx e h nx σ a w _ b0 er m mk hb ?_)
 have hp : Post G n b0 σ h nx w Q (@Out.rec (fun _ => Out) .bad g .ext .ret (f e h nx)) := hp
 cases hf : f e h nx with
 | bad => rw [hf] at hp; exact hp
 | nrm e1 h1 n1 => rw [hf] at hp; exact fun σ1 w1 a1 t1 r1 mk1 => hy e1 h1 n1 σ1 a1 w1 Q b0 r1 t1.mr mk1 (Nat.le_trans hb t1.size) (hp.shift t1)
 | ext id e1 h1 n1 => rw [hf] at hp; exact hp
 | ret e1 h1 n1 => rw [hf] at hp; exact hp
theorem oK {f g : ContF} {x : Operand} {y z : Code} (hy : FF P G n rd f y) (hz : FF P G n rd g z) : FF P G n rd (l7 G x f g) (.cond x y z) := fun e h nx σ a w Q b0 er m mk hb hp => by
 unfold l7 at hp
 split at hp
 ·rename_i t ht
  have hx := (er.oe m x _ ht).scal_inv rfl
  cases t with
  | true => exact wpIn_cond_true hx (hy e h nx σ a w Q b0 er m mk hb hp)
  | false => exact wpIn_cond_false hx (hz e h nx σ a w Q b0 er m mk hb hp)
 ·exact hp.elim
theorem lA {f : ContF} {id : Nat} {c : Code} (hc : FF P G n rd f c) : FF P G n rd (l8 id f) (.block id c) := fun e h nx σ a w Q b0 er m mk hb hp => by
 refine wpIn_block (hc e h nx σ a w _ b0 er m mk hb ?_)
 have hp : Post G n b0 σ h nx w Q (@Out.rec (fun _ => Out) .bad .nrm (fun id' e' h' nx' => bo (Nat.beq id' id) (.nrm e' h' nx') (.ext id' e' h' nx')) .ret (f e h nx)) := hp
 cases hf : f e h nx with
 | bad => rw [hf] at hp; exact hp
 | nrm e1 h1 n1 => rw [hf] at hp; exact hp
 | ret e1 h1 n1 => rw [hf] at hp; exact hp
 | ext id' e1 h1 n1 =>
  rw [hf] at hp
  intro σ1 w1 a1 t1 r1 mk1
  simp only [Exit.inBlock]
  cases hb : Nat.beq id' id with
  | true =>
   have := Nat.eq_of_beq_eq_true hb; subst this
   have hp : Post G n b0 σ h nx w Q (bo (Nat.beq id' id') (.nrm e1 h1 n1) (.ext id' e1 h1 n1)) := hp
   rw [hb] at hp
   rw [if_pos rfl]; exact hp σ1 w1 a1 t1 r1 mk1
  | false =>
   have hne : id' ≠ id := fun e => by subst e; simp at hb
   have hp : Post G n b0 σ h nx w Q (bo (Nat.beq id' id) (.nrm e1 h1 n1) (.ext id' e1 h1 n1)) := hp
   rw [hb] at hp
   rw [if_neg hne]; exact hp σ1 w1 a1 t1 r1 mk1
theorem nW {f : ContF} {c : Code} (hc : FF P G n rd f c) (fuel : Nat) : FF P G n rd (iW f fuel) (.loop c) := fun e h nx σ a w Q b0 er m mk hb hp => by
 refine wpIn_loop_rounds fuel ?_
 induction fuel generalizing e h nx σ a w with
 | zero => exact hp.elim
 | succ k ih =>
  rw [roundsIn_succ]
  refine hc e h nx σ a w _ b0 er m mk hb ?_
  have hp : Post G n b0 σ h nx w Q (@Out.rec (fun _ => Out) .bad (iW f k) .ext .ret (f e h nx)) := hp
  cases hf : f e h nx with
  | bad => rw [hf] at hp; exact hp
  | nrm e1 h1 n1 => rw [hf] at hp; exact fun σ1 w1 a1 t1 r1 mk1 => ih e1 h1 n1 σ1 a1 w1 r1 t1.mr mk1 (Nat.le_trans hb t1.size) (hp.shift t1)
  | ext id e1 h1 n1 => rw [hf] at hp; exact hp
  | ret e1 h1 n1 => rw [hf] at hp; exact hp
theorem FH {b : Frame} {k : List Item} {cs : List Frame} {c : Code} : step P (lone (b.atR a (.code (.scope c) :: k)) cs w) = .next (lone (b.atR a (.code c :: .inScope c :: k)) cs w) :=
 step_lone_go (by simp [stepG, stepG.exec, Frame.atR])
theorem S4 {b : Frame} {k : List Item} {cs : List Frame} {c : Code} : step P (lone (b.atR a (.inScope c :: k)) cs w) = .next (lone (b.atR a k) cs w) :=
 step_lone_go (by simp [stepG, stepG.exec, Frame.atR])
theorem XO {F : Fence} {j : Nat} {c : Code} (h : c.wpIn F j P (Exit.noGoto Q) a w) : (Code.scope c).wpIn F j P Q a w := by
 intro b k cs hro hb hr
 have h0 : (lone (b.atR a (.code (.scope c) :: k)) cs w).fenced P F := fenced_calm hb hr rfl
 obtain ⟨e, a₁, w₁, hq, harr⟩ := h b (.inScope c :: k) cs hro hb hr
 cases e with
 | normal => exact ⟨.normal, a₁, w₁, hq, .head h0 FH (StepsIn.trans harr (.one (fenced_calm hb hr rfl) S4))⟩
 | exit id' =>
  have hx : exitTo id' (.inScope c :: k) = exitTo id' k := by simp [exitTo]
  exact ⟨.exit id', a₁, w₁, hq, fun k' hk => .head h0 FH (harr.1 k' (by rw [hx]; exact hk)),
   fun hr' hk => let ⟨k₁, h1, h2⟩ := harr.2 hr' (by rw [hx]; exact hk); ⟨k₁, h1, .head h0 FH h2⟩⟩
 | goto l => exact hq.elim
 | ret => exact ⟨_, a₁, w₁, hq, .of_steps (.one h0 FH) harr⟩
 | panic ch => exact ⟨_, a₁, w₁, hq, .of_steps (.one h0 FH) harr⟩
 | outgrown => exact ⟨_, a₁, w₁, hq, .of_steps (.one h0 FH) harr⟩
theorem gU {f : ContF} {c : Code} (hc : FF P G n rd f c) : FF P G n rd f (.scope c) := fun e h nx σ a w Q b0 er m mk hb hp => by
 refine XO (hc e h nx σ a w _ b0 er m mk hb ?_)
 cases hf : f e h nx with
 | bad => rw [hf] at hp; exact hp
 | nrm e1 h1 n1 => rw [hf] at hp; exact hp
 | ret e1 h1 n1 => rw [hf] at hp; exact hp
 | ext id e1 h1 n1 => rw [hf] at hp; exact hp
theorem dS {st : Nat} (h : Nat.beq st 1 = false) : iZ st ≠ .busy := by
 match st, h with
 | 0, _ => intro hh; cases hh
 | 1, h => simp at h
 | 2, _ => intro hh; cases hh
 | st + 3, _ => intro hh; cases hh
theorem MR.lp {h : Hf} (m : MR G σ h nx w) {id st k : Nat} {e : Tb Value} {ps : List Nat} {asg body : Code} {pend : Option (Option Nat)} (hb : h id = some (.loop st k e ps asg body pend)) :
 ∃ (L : Loc) (r : Loop), σ id = some L ∧ L.base = 0 ∧ w.heap[L.blk]? = some (.loop r) ∧ r.state = iZ st ∧ r.tmps.size = k ∧ (∀ j v, e.get j = some v → ∃ u, r.tmps[j]? = some u ∧ VR σ v u) ∧ r.params.toList = ps ∧ r.assign = asg ∧ r.body = body ∧ r.pending = pend.map jumpC := by
 obtain ⟨L, hL, h0, r, h1⟩ := m.blk id _ hb
 exact ⟨L, r, hL, h0, h1⟩
theorem MR.lpSet {h : Hp} (m : MR G σ h.get nx w) {id st st' k : Nat} {e : Tb Value} {ps : List Nat} {asg body : Code} {pend pend' : Option (Option Nat)} (hb : h.get id = some (.loop st k e ps asg body pend)) {L : Loc} (hL : σ id = some L) (f : Loop → Loop)
 (hf : ∀ r : Loop, (f r).state = iZ st' ∧ (f r).tmps = r.tmps ∧ (f r).params = r.params ∧ (f r).assign = r.assign ∧ (f r).body = r.body ∧ (r.pending = pend.map jumpC → (f r).pending = pend'.map jumpC)) {r : Loop} (hr : w.heap[L.blk]? = some (.loop r)) :
 Tr G σ h.get nx w σ (h.put id (.loop st' k e ps asg body pend')).get nx (w.putObj L.blk (.loop (f r))) := by
 obtain ⟨L', r', hL', h0, h1, h2, h3, h4, h5, h6, h7, h8⟩ := m.lp hb
 rw [hL] at hL'; injection hL' with hL'; subst hL'
 rw [hr] at h1; injection h1 with h1; injection h1 with h1; subst h1
 have hlt : L.blk < w.heap.size := (Array.getElem?_eq_some_iff.1 hr).1
 obtain ⟨f1, f2, f3, f4, f5, f6⟩ := hf r
 rw [Tb.put_fun]
 exact m.upd hb hL ⟨h0, f r, World.putObj_heap_same hlt, f1, by rw [f2]; exact h3, by rw [f2]; exact h4, by rw [f3]; exact h5, by rw [f4]; exact h6, by rw [f5]; exact h7, f6 h8⟩ ⟨rfl, rfl, rfl⟩ World.putObj_size (fun r hne => World.putObj_heap_other hne)
theorem O8 (w : World) (o : Obj) {r : Nat} (hr : r < w.heap.size) : (w.alloc o).heap[r]? = w.heap[r]? := by
 show (w.heap.push o)[r]? = _
 rw [Array.getElem?_push, if_neg (by omega)]
theorem cZ {g : Operand} {ps : Array Nat} {asg body : Code} (hc : CallsOk P G call) : FF P G n none (UA P G n call g ps asg body) (.rangeFunc g ps asg body) := fun e h nx σ a w Q b0 er m mk hb0 hp => by
 unfold UA at hp
 split at hp
 ·rename_i f xs cs hg
  cases hcb : OX P f with
  | false => rw [hcb] at hp; exact hp.elim
  | true =>
   rw [hcb, CG, F2, DN] at hp
   obtain ⟨ys, ys', hu, hx, hx'⟩ := (er.oe m g _ hg).func_inv
   refine wpIn_rangeFunc fun fn _ => ?_
   have t1 := m.adopt (w' := (w.alloc (.deferred (some []))).alloc (.loop { state := .ready, pending := none, fn := fn, tmps := a.tmps, params := ps, assign := asg, body := body, defers := w.heap.size }))
    ⟨w.heap.size + 1, 0, 0⟩ (.loop 0 n e ps.toList asg body none) (by simp) ⟨rfl, rfl, rfl⟩ (by simp; omega)
    (fun r hr => by rw [O8 _ _ (by rw [World.size_alloc]; omega), O8 _ _ hr])
    (fun σ' hs => ⟨rfl, _, by have := World.alloc_heap_new (w.alloc (.deferred (some []))) (.loop { state := .ready, pending := none, fn := fn, tmps := a.tmps, params := ps, assign := asg, body := body, defers := w.heap.size }); rw [World.size_alloc] at this; exact this, rfl, er.size, fun k v hk => let ⟨u, hu, hr⟩ := er.get k v hk; ⟨u, hu, hr.mono hs⟩, rfl, rfl, rfl, rfl⟩)
   generalize hw1 : (w.alloc (.deferred (some []))).alloc (.loop { state := .ready, pending := none, fn := fn, tmps := a.tmps, params := ps, assign := asg, body := body, defers := w.heap.size }) = w1 at t1
   have hd1 : w1.heap[w.heap.size]? = some (.deferred (some [])) := by rw [← hw1, O8 _ _ (by rw [World.size_alloc]; omega)]; exact World.alloc_heap_new _ _
   have hs1 : w1.heap.size = w.heap.size + 2 := by rw [← hw1]; simp
   generalize hσ1 : (fun i => if i = nx then some (⟨w.heap.size + 1, 0, 0⟩ : Loc) else σ i) = σ1 at t1
   have hL1 : σ1 nx = some ⟨w.heap.size + 1, 0, 0⟩ := by rw [← hσ1]; simp
   rw [← Tb.put_fun] at t1
   have mk1 : Mk b0 σ1 (h.put nx (.loop 0 n e ps.toList asg body none)).get w1 ({ target := .collected w.heap.size, args := #[] } :: a.defers) := by
    obtain ⟨bs, m1, m2, m3⟩ := mk.tr t1
    obtain ⟨bs0, m4, _, m5⟩ := mk
    refine ⟨w.heap.size :: bs, by rw [m1]; rfl, List.nodup_cons.2 ⟨fun hh => ?_, m2⟩, fun b hb => ?_⟩
    ·have he : bs = bs0 := by
      have := m1.symm.trans m4
      exact (List.map_inj_right (fun x y hxy => by simpa using hxy)).1 this
     have := (m5 _ (he ▸ hh)).2.1
     omega
    ·rcases List.mem_cons.1 hb with rfl | hb
     ·refine ⟨hb0, by omega, hd1, fun id L hi hs he => ?_⟩
      rw [← hσ1] at hs
      by_cases e1 : id = nx
      ·simp only [if_pos e1] at hs; injection hs with hs; subst hs; simp at he
      ·simp only [if_neg e1] at hs
       rw [Tb.get_put, if_neg e1] at hi
       obtain ⟨B, hB⟩ := Option.isSome_iff_exists.1 hi
       obtain ⟨L', h1, h2⟩ := m.blk id B hB
       rw [hs] at h1; injection h1 with h1; subst h1
       have := h2.lt; omega
     ·exact m3 b hb
   have hinv : (invoke (.fn (.func f) ⟨ys'⟩) (⟨ys⟩ ++ #[.func (.yield (w.heap.size + 1)) #[] #[]])).run P w1 = .ok (.enter f ⟨ys ++ ([.func (.yield (w.heap.size + 1)) ⟨[]⟩ ⟨[]⟩] ++ ys')⟩) w1 := by
    have e1 : (⟨ys ++ ([.func (.yield (w.heap.size + 1)) ⟨[]⟩ ⟨[]⟩] ++ ys')⟩ : Array Value) = ((⟨ys⟩ : Array Value) ++ #[.func (.yield (w.heap.size + 1)) #[] #[]]) ++ (⟨ys'⟩ : Array Value) := by
     apply Array.ext'; simp
    unfold invoke
    simp only [XA hcb, e1]
   refine ⟨w.heap.size + 1, [{ target := .collected w.heap.size, args := #[] }], w1, { target := .fn (.func f) ⟨ys'⟩, args := ⟨ys⟩ ++ #[.func (.yield (w.heap.size + 1)) #[] #[]] }, w1, f, _, w1, by rw [gZ, run_enterLoop_outer, hw1], ?_, fun f' _ => QC _ f', hinv, fun hd => by rw [QD] at hd; (cases hd), ?_⟩
   ·simp only [resolve, hu, Deferred.ofValue, Sem.run_pure]; simp [Act.eval]
   cases hq : call f (xs ++ ([.func (.yield nx) ⟨[]⟩ ⟨[]⟩] ++ cs)) (h.put nx (.loop 0 n e ps.toList asg body none)) (nx + 1) with
   | bad => rw [hq] at hp; exact hp.elim
   | ok v h2 nx2 =>
    rw [hq] at hp
    have hcall := hc.fn f _ _ _ v h2 nx2 (XB hcb) hq σ1 w1 _ ((hx.mono t1.ext).append (VRs.append (.yld hL1 .nil) (hx'.mono t1.ext))) t1.mr
    refine (X8 hcall 1).mono fun x w2 ⟨σ2, u, hx2, _, t2⟩ => ?_
    subst hx2
    simp only at hp
    split at hp
    ·rename_i st n' e' ps' asg' body' pend hbl
     obtain ⟨L2, r, hL2, _, hr, hst, _, _, _, _, _, hpend⟩ := t2.mr.lp hbl
     have hLe : L2 = ⟨w.heap.size + 1, 0, 0⟩ := by
      have := t2.ext nx _ hL1
      rw [hL2] at this; injection this
     subst hLe
     cases hbz : Nat.beq st 1 with
     | true => rw [hbz] at hp; exact hp.elim
     | false =>
      rw [hbz, BV, F2] at hp
      have t3 := t2.mr.lpSet (st' := 3) (pend' := pend) hbl hL2 (fun r => { r with state := .exhausted }) (fun r => ⟨rfl, rfl, rfl, rfl, rfl, fun h => h⟩) hr
      have tt := t1.trans (t2.trans t3)
      refine ⟨_, _, run_endLoop hr (by rw [hst]; exact dS hbz), ?_⟩
      have er' : ER σ2 n e { a with defers := [{ target := .collected w.heap.size, args := #[] }] ++ a.defers } := ⟨er.size, (er.mono tt.ext).get⟩
      have mk' := (mk1.tr t2).tr t3
      dsimp only at tt mk' ⊢
      generalize w2.putObj (w.heap.size + 1) (.loop { r with state := .exhausted }) = w4 at tt mk' ⊢
      rw [hpend]
      cases pend with
      | none => exact hp σ2 _ _ tt er' mk'
      | some j =>
       cases j with
       | none => exact wpIn_ret (hp σ2 _ _ tt er' mk')
       | some id => exact wpIn_exit (hp σ2 _ _ tt er' mk')
    ·exact hp.elim
 ·exact hp.elim
theorem UU {dr : RegF} (rg : Bool) (hrg : rg = true → rd = none) (fuel : Nat) (hc : CallsOk P G call) (hd : XK P G n dr) : ∀ c, FF P G n rd (ON P G n fuel call dr rg c) c := by
 intro c
 induction c with
 | skip => exact fun e h nx σ a w Q b0 er m mk hb hp => wpIn_skip (hp σ w a (Tr.refl m) er mk)
 | region id ops draw =>
  cases draw with
  | true => exact hd rd id ops
  | false => exact fun e h nx σ a w Q b0 er m mk hb hp => wpIn_region_list (UD hc _ rfl er m mk hp)
 | seq x y hx hy => exact mW hx hy
 | cond x y z hy hz => exact oK hy hz
 | block id c ih => exact lA ih
 | loop c ih => exact nW ih fuel
 | rangeFunc g ps asg body _ _ =>
  cases rg with
  | true => rw [hrg rfl]; exact cZ hc
  | false => exact fun e h nx σ a w Q b0 er m mk hb hp => hp.elim
 | exit id => exact fun e h nx σ a w Q b0 er m mk hb hp => wpIn_exit (hp σ w a (Tr.refl m) er mk)
 | scope c ih => exact gU ih
 | label l => exact fun e h nx σ a w Q b0 er m mk hb hp => wpIn_label (hp σ w a (Tr.refl m) er mk)
 | ret => exact fun e h nx σ a w Q b0 er m mk hb hp => wpIn_ret (hp σ w a (Tr.refl m) er mk)
 | _ => exact fun e h nx σ a w Q b0 er m mk hb hp => hp.elim
theorem YI {t : TypeId} {y : Value} (hm : J5 P h 0 t (some y) = .ok v h' nx') (hy : VR σ y u) (m : MR G σ h.get nx w) : ∃ ad x, u = .pointer (some ad) ∧ VR σ v x ∧ (loadVar t ad).run P w = .ok x w := by
 unfold J5 at hm
 split at hm
 ·rename_i id off h1
  injection h1 with h1; subst h1
  obtain ⟨L, hL, hu⟩ := hy.ptr_inv
  split at hm
  ·rename_i el n k c hb
   split at hm
   ·rename_i hr
    split at hm
    ·rename_i v' hv
     obtain ⟨rfl, rfl, rfl⟩ := BF hm
     obtain ⟨x, hc, hvu⟩ := m.cell hb hL hv
     refine ⟨_, x, hu, hvu, ?_⟩
     simp only [loadVar, Sem.run_bind, (GI hr w).1, Result.andThen_ok, Option.isSome_none, Bool.false_eq_true, if_false]
     simp [hc]
    ·cases hm
   ·rename_i j hr
    split at hm
    ·rename_i l hl
     obtain ⟨rfl, rfl, rfl⟩ := BF hm
     obtain ⟨us, h2, h3, h4⟩ := m.ldN hb hL j off hl
     obtain ⟨i, hi, hs⟩ := (GI hr w).2 j rfl
     have hcells := G2 (P := P) h4
     rw [h3] at hcells
     refine ⟨_, .agg ⟨us⟩, hu, .agg h2 .nil, ?_⟩
     simp [loadVar, (GI hr w).1, sizeOf, typeInfo, hi, hs, hcells]
    ·cases hm
   ·cases hm
  ·cases hm
 ·cases hm
def LM (tmps : Array Value) : ResultVar → Sem Value
 | .tmp t => pure (tmps.getD t Go.undef)
 | .cell ad t => do loadVar t (← asAddr (tmps.getD ad Go.undef))
theorem aG (er : ER σ n e a) (m : MR G σ h.get nx w) : ∀ {l : List ResultVar} {vs : List Value}, nV P e h l = some vs → ∃ us, VRs σ vs us ∧ (l.mapM (LM a.tmps)).run P w = .ok us w
 | [], vs, hm => by injection hm with hm; subst hm; exact ⟨[], .nil, rfl⟩
 | r :: l, vs, hm => by
  have hm : (match (match r with | .tmp t => e.get t | .cell ad t => (match J5 P h 0 t (e.get ad) with | .ok v _ _ => some v | .bad => none)), nV P e h l with
   | some v, some vs => some (v :: vs)
   | _, _ => none) = some vs := hm
  split at hm
  ·rename_i v vs' h1 h2
   injection hm with hm; subst hm
   obtain ⟨us, h3, h4⟩ := aG er m h2
   have key : ∀ x, VR σ v x → (LM a.tmps r).run P w = .ok x w → ∃ us, VRs σ (v :: vs') us ∧ ((r :: l).mapM (LM a.tmps)).run P w = .ok us w := fun x hv hx =>
    ⟨x :: us, .cons hv h3, by simp only [List.mapM_cons, Sem.run_bind, Sem.run_pure, Result.andThen_ok, hx, h4]⟩
   cases r with
   | tmp t =>
    obtain ⟨x, hx, hv⟩ := er.get t v h1
    exact key x hv (by
     have hg : a.tmps.getD t Go.undef = x := by simp [hx]
     simp only [LM, hg]; rfl)
   | cell ad t =>
    simp only at h1
    cases hq : e.get ad with
    | none => rw [hq] at h1; simp [J5] at h1
    | some y =>
     rw [hq] at h1
     split at h1
     ·rename_i v2 h5 n5 hl
      injection h1 with h1; subst h1
      obtain ⟨x0, hx0, hv0⟩ := er.get ad y hq
      obtain ⟨adr, x, hp, hv, hrun⟩ := YI (P := P) hl hv0 m
      subst hp
      exact key x hv (by
       have hg : a.tmps.getD ad Go.undef = .pointer (some adr) := by simp [hx0]
       simp only [LM, Sem.run_bind, hg, asAddr, Sem.run_pure, Result.andThen_ok, hrun])
     ·cases h1
  ·cases hm
theorem aF {vs us : List Value} (hv : VRs σ vs us) : VR σ (QO vs) (QO us) := by
 match vs, us, hv with
 | [], [], hv => exact .tuple .nil .nil
 | [x], [y], hv => exact hv
 | x :: x' :: vs, y :: y' :: us, hv => exact .tuple hv .nil
 | [], _ :: _, hv => cases hv
 | _ :: _, [], hv => have := hv.len; simp at this
 | [_], _ :: _ :: _, hv => have := hv.len; simp at this
 | _ :: _ :: _, [_], hv => have := hv.len; simp at this
theorem OJ {fn : Func} {us : List Value} (hr : (fn.results.toList.mapM (LM a.tmps)).run P w = .ok us w) : (results fn a.tmps).run P w = .ok (QO us) w := by
 have he : results fn a.tmps = (do let vs ← fn.results.mapM (LM a.tmps); pure (if h : vs.size = 1 then vs[0] else .tuple vs)) := by
  unfold results
  congr 1
 rw [he, Array.mapM_eq_mapM_toList]
 simp only [Sem.run_bind, Sem.run_map, hr, Result.andThen_ok]
 match us with
 | [] => rfl
 | [x] => rfl
 | x :: y :: us => rfl
end
structure Sh (b0 : Nat) (σ : Sg) (h : Hf) (w w' : World) : Prop where
 os : w'.os = w.os
 tape : w'.tape = w.tape
 output : w'.output = w.output
 size : w'.heap.size = w.heap.size
 blk : ∀ r, (r < b0 ∨ ∃ id L, (h id).isSome = true ∧ σ id = some L ∧ L.blk = r) → w'.heap[r]? = w.heap[r]?
theorem Sh.mr {G b0 nx : Nat} {σ : Sg} {h : Hf} {w w' : World} (s : Sh b0 σ h w w') (m : MR G σ h nx w) : MR G σ h nx w' :=
 ⟨fun id B hb => let ⟨L, h1, h2⟩ := m.blk id B hb; ⟨L, h1, h2.keep (Sg.le.refl σ) (s.blk _ (.inr ⟨id, L, by rw [hb]; rfl, h1, rfl⟩))⟩, m.sep, m.free, m.glob, m.gle⟩
theorem Tr.sh {G b0 nx nx' : Nat} {σ σ' : Sg} {h h' : Hf} {w w' w'' : World} (t : Tr G σ h nx w σ' h' nx' w') (s : Sh b0 σ' h' w' w'') (hb : w.heap.size ≤ b0) : Tr G σ h nx w σ' h' nx' w'' where
 le := t.le
 ext := t.ext
 old := t.old
 mr := s.mr t.mr
 os := s.os.trans t.os
 tape := s.tape.trans t.tape
 output := s.output.trans t.output
 size := by rw [s.size]; exact t.size
 fr r hr hn := (s.blk r (.inl (by omega))).trans (t.fr r hr hn)
 src := t.src
 dom := t.dom
 qt r hr hq := ⟨(s.blk r (.inl (by omega))).trans (t.qt r hr hq).1, (t.qt r hr hq).2⟩
theorem NT {P : Program} {fn : Func} {tmps : Array Value} {R : Ending → World → Prop} {b0 : Nat} {σ : Sg} {h : Hf} {w0 : World} (fin : ∀ w', Sh b0 σ h w0 w' → ∃ v, (results fn tmps).run P w' = .ok v w' ∧ R (.returned v) w') :
 ∀ (bs : List Nat) (w : World), Sh b0 σ h w0 w → bs.Nodup → (∀ b ∈ bs, b0 ≤ b ∧ b < w.heap.size ∧ w.heap[b]? = some (.deferred (some [])) ∧ ∀ id L, (h id).isSome = true → σ id = some L → L.blk ≠ b) →
  LeavesInM Fence.wide 2 P fn tmps R (bs.map (fun b => { target := .collected b, args := #[] })) .returning w
 | [], w, hs, _, _ => fin w hs
 | b :: bs, w, hs, hn, hb => by
  obtain ⟨h1, h2, h3, h4⟩ := hb b (by simp)
  obtain ⟨hn1, hn2⟩ := List.nodup_cons.1 hn
  refine ⟨by simp, .inl ⟨b, _, rfl, run_takeDeferred h3, ?_⟩⟩
  refine NT fin bs _ ⟨hs.os, hs.tape, hs.output, by rw [World.putObj_size]; exact hs.size, fun r hr => ?_⟩ hn2 fun b' hb' => ?_
  ·refine (World.putObj_heap_other fun e => ?_).trans (hs.blk r hr)
   subst e
   rcases hr with hr | ⟨id, L, h5, h6, h7⟩
   ·omega
   ·exact h4 id L h5 h6 h7
  ·obtain ⟨h5, h6, h7, h8⟩ := hb b' (by simp [hb'])
   exact ⟨h5, by rw [World.putObj_size]; exact h6, (World.putObj_heap_other fun e => hn1 (by rw [← e]; exact hb')).trans h7, h8⟩
theorem oU {P : Program} {G fuel : Nat} {dr : CallF → Nat → RegF} {call : CallF} (hc : CallsOk P G call) (hd : ∀ n, XK P G n (dr call n)) (f : FuncId) (args : List Value) (h : Hp) (nx : Nat) (v : Value) (h' : Hp) (nx' : Nat) (hm : aI P G fuel dr call f args h nx = .ok v h' nx') :
 ∀ σ w us, VRs σ args us → MR G σ h.get nx w → Calls P f ⟨us⟩ w fun x w' => ∃ σ' u, x = .returned u ∧ VR σ' v u ∧ Tr G σ h.get nx w σ' h'.get nx' w' := by
 intro σ w us hv m
 obtain ⟨fn, hf, hm⟩ := D9 (show oo (P.funcs[f]?) .bad (fun fn => oo fn.body .bad (fun c => bo (Nat.ble args.length fn.ntmps) (sZ P fn (ON P G fn.ntmps fuel call (dr call fn.ntmps) true c (Tb.of args) h nx)) .bad)) = .ok v h' nx' from hm) (by simp)
 obtain ⟨c, hb, hm⟩ := D9 hm (by simp)
 obtain ⟨hle, hm⟩ := BE hm (by simp)
 have hle := Nat.le_of_ble_eq_true hle
 have hlen := hv.len
 refine (callsIn_wide (n := 2)).1 (callsIn_of_wp_marks hf hb trivial ?_)
 have er : ER σ fn.ntmps (Tb.of args) { tmps := (⟨us⟩ : Array Value) ++ Array.replicate (fn.ntmps - us.length) Go.undef, defers := [] } := by
  refine ⟨by simp; omega, fun k v hk => ?_⟩
  rw [Tb.get_of] at hk
  obtain ⟨u, hu, hr⟩ := hv.get hk
  have hlt := (List.getElem?_eq_some_iff.1 hu).1
  exact ⟨u, by rw [Array.getElem?_append_left (by simpa using hlt)]; simpa using hu, hr⟩
 refine UU (rd := none) true (fun _ => rfl) fuel hc (hd fn.ntmps) c (Tb.of args) h nx σ _ w _ w.heap.size er m Mk.nil (Nat.le_refl _) ?_
 cases hr : ON P G fn.ntmps fuel call (dr call fn.ntmps) true c (Tb.of args) h nx with
 | bad => rw [hr] at hm; cases hm
 | ext id e1 h1 n1 => rw [hr] at hm; cases hm
 | nrm e1 h1 n1 =>
  rw [hr] at hm
  obtain ⟨hem, hm⟩ := BE (show bo fn.results.toList.isEmpty (OR.ok (QO []) h1 n1) OR.bad = OR.ok v h' nx' from hm) (by simp)
  obtain ⟨rfl, rfl, rfl⟩ := BF hm
  intro σ' w' a' ht er' mk'
  have hl : fn.results.toList = [] := by simpa using hem
  obtain ⟨bs, hds, hnd, hbs⟩ := mk'
  show LeavesInM _ _ _ _ _ _ a'.defers _ _
  rw [hds]
  refine NT (b0 := w.heap.size) (σ := σ') (h := h1.get) (w0 := w') (fun w2 hs => ?_) bs w' ⟨rfl, rfl, rfl, rfl, fun _ _ => rfl⟩ hnd hbs
  exact ⟨QO [], OJ (by rw [hl]; rfl), σ', QO [], rfl, aF .nil, ht.sh hs (Nat.le_refl _)⟩
 | ret e1 h1 n1 =>
  rw [hr] at hm
  obtain ⟨vs, hvs, hm⟩ := D9 (show oo (nV P e1 h1 fn.results.toList) OR.bad (fun vs => OR.ok (QO vs) h1 n1) = OR.ok v h' nx' from hm) (by simp)
  obtain ⟨rfl, rfl, rfl⟩ := BF hm
  intro σ' w' a' ht er' mk'
  obtain ⟨bs, hds, hnd, hbs⟩ := mk'
  show LeavesInM _ _ _ _ _ _ a'.defers _ _
  rw [hds]
  refine NT (b0 := w.heap.size) (σ := σ') (h := h1.get) (w0 := w') (fun w2 hs => ?_) bs w' ⟨rfl, rfl, rfl, rfl, fun _ _ => rfl⟩ hnd hbs
  obtain ⟨us', h2, h3⟩ := aG er' (hs.mr ht.mr) hvs
  exact ⟨QO us', OJ h3, σ', QO us', rfl, aF h2, ht.sh hs (Nat.le_refl _)⟩
theorem ZX {σ : Sg} {n : Nat} : ∀ (ps : List Nat) (args us : List Value) (e e' : Tb Value) (a : Array Value), qP n ps args e = some e' → VRs σ args us → a.size = n → (∀ k v, e.get k = some v → ∃ u, a[k]? = some u ∧ VR σ v u) →
 us.length = ps.length ∧ ((ps.zip us).foldl (fun tmps (p : Nat × Value) => tmps.setIfInBounds p.1 p.2) a).size = n ∧ ∀ k v, e'.get k = some v → ∃ u, ((ps.zip us).foldl (fun tmps (p : Nat × Value) => tmps.setIfInBounds p.1 p.2) a)[k]? = some u ∧ VR σ v u
 | [], args, us, e, e', a, hp, hv, hs, hg => by
  cases args with
  | nil =>
   injection hp with hp; subst hp
   obtain rfl := hv.inv_nil
   exact ⟨rfl, hs, hg⟩
  | cons x xs => cases hp
 | d :: ps, args, us, e, e', a, hp, hv, hs, hg => by
  cases args with
  | nil => cases hp
  | cons x xs =>
   obtain ⟨y, ys, rfl, hxy, hv⟩ := hv.inv
   obtain ⟨hd, hp⟩ := BE (show bo (Nat.blt d n) (m9 x (fun v => IX e d v (fun e => qP n ps xs e))) none = some e' from hp) (by simp)
   rw [m8, F2] at hp
   have hd := AZ hd
   obtain ⟨h1, h2, h3⟩ := ZX ps xs ys (e.put d x) e' (a.setIfInBounds d y) hp hv (by simp [hs]) (fun k v hk => by
    rw [Tb.get_put] at hk
    by_cases hkd : k = d
    ·subst hkd
     rw [if_pos rfl] at hk; injection hk with hk; subst hk
     exact ⟨y, by rw [Array.getElem?_setIfInBounds_self_of_lt (by rw [hs]; exact hd)], hxy⟩
    ·rw [if_neg hkd] at hk
     rw [Array.getElem?_setIfInBounds_ne (Ne.symm hkd)]
     exact hg k v hk)
   exact ⟨by simp [h1], h2, h3⟩
theorem NC {P : Program} {G l st nx nx' : Nat} {pend : Option (Option Nat)} {b : Bool} {h h' : Hp} {v : Value} (hm : QA l st pend b h nx = .ok v h' nx') (jump : Option Code) (hst : iZ st = (if jump.isNone then .ready else .done)) (hj : jump = pend.map jumpC) (hjb : jump.isNone = b)
 {σ : Sg} {w : World} (m : MR G σ h.get nx w) {L : Loc} (hL : σ l = some L) : ∃ w', (Instr.endRound L.blk jump).run P w = .ok (.bool b) w' ∧ v = .bool b ∧ Tr G σ h.get nx w σ h'.get nx' w' := by
 unfold QA at hm
 split at hm
 ·rename_i st' k e ps asg body pd hb
  rw [F2] at hm
  obtain ⟨rfl, rfl, rfl⟩ := BF hm
  obtain ⟨L', r, hL', _, hr, _⟩ := m.lp hb
  rw [hL] at hL'; injection hL' with hL'; subst hL'
  exact ⟨_, by rw [run_endRound jump hr, hjb], rfl, m.lpSet (st' := st) (pend' := pend) hb hL (fun r => { r with state := if jump.isNone then .ready else .done, pending := jump }) (fun r => ⟨hst.symm, rfl, rfl, rfl, rfl, fun _ => hj⟩) hr⟩
 ·cases hm
theorem gY {P : Program} {G fuel : Nat} {dr : CallF → Nat → RegF} {call : CallF} (hc : CallsOk P G call) (hd : ∀ n, XK P G n (dr call n)) (l : Nat) (args : List Value) (h : Hp) (nx : Nat) (v : Value) (h' : Hp) (nx' : Nat) (hm : QN P G fuel dr call l args h nx = .ok v h' nx') :
 ∀ σ w us, VRs σ args us → MR G σ h.get nx w → ∃ (L : Loc) (r : Loop), σ l = some L ∧ w.heap[L.blk]? = some (.loop r) ∧ us.length = r.params.size ∧
  RoundIn Fence.wide 2 P L.blk r.fn ((r.params.zip (⟨us⟩ : Array Value)).foldl (fun tmps (t, a) => tmps.setIfInBounds t a) r.tmps) r.assign r.body w (fun x w' => ∃ σ' u, x = .returned u ∧ VR σ' v u ∧ Tr G σ h.get nx w σ' h'.get nx' w') := by
 intro σ w us hv m
 unfold QN at hm
 split at hm
 ·rename_i n e ps asg body pd hb
  obtain ⟨e1, hpl, hm⟩ := D9 hm (by simp)
  obtain ⟨L, r, hL, hbase, hr, hst, hsz, hget, hps, hasg, hbody, hpend⟩ := m.lp hb
  obtain ⟨q1, q2, q3⟩ := ZX ps args us e e1 r.tmps hpl hv hsz hget
  have hfold : ((r.params.zip (⟨us⟩ : Array Value)).foldl (fun tmps (t, a) => tmps.setIfInBounds t a) r.tmps) = (ps.zip us).foldl (fun tmps (p : Nat × Value) => tmps.setIfInBounds p.1 p.2) r.tmps := by
   rw [← Array.foldl_toList, Array.toList_zip, hps]
  refine ⟨L, r, hL, hr, by rw [← Array.length_toList, hps]; exact q1, ?_⟩
  rw [hfold, hasg, hbody]
  generalize (ps.zip us).foldl (fun tmps (p : Nat × Value) => tmps.setIfInBounds p.1 p.2) r.tmps = tm at q2 q3
  have er : ER σ n e1 { tmps := tm, defers := [] } := ⟨q2, q3⟩
  refine roundIn_of_wpIn (F := Fence.wide) trivial (UU (rd := some L.blk) false (fun hh => by cases hh) fuel hc (hd n) asg e1 h nx σ _ w _ 0 er m Mk.nil (Nat.zero_le _) ?_)
  cases hq : ON P G n fuel call (dr call n) false asg e1 h nx with
  | bad => rw [hq] at hm; cases hm
  | ext id e2 h2 n2 => rw [hq] at hm; cases hm
  | ret e2 h2 n2 => rw [hq] at hm; cases hm
  | nrm e2 h2 n2 =>
   rw [hq] at hm
   simp only at hm
   intro σ2 w2 a2 t2 er2 mk2
   split at hm
   ·rename_i n' e' ps' asg' body' pend' hb2
    rw [F2] at hm
    obtain ⟨L2, r2, hL2, _, hr2, hst2, _⟩ := t2.mr.lp hb2
    have : L2 = L := by
     have := t2.ext l L hL
     rw [hL2] at this; injection this
    subst this
    have t3 := t2.mr.lpSet (st' := 1) (pend' := pend') hb2 hL2 (fun r => { r with state := .busy }) (fun r => ⟨rfl, rfl, rfl, rfl, rfl, fun h => h⟩) hr2
    refine ⟨_, run_beginRound hr2 hst2, UU (rd := some L2.blk) false (fun hh => by cases hh) fuel hc (hd n) body e2 _ n2 σ2 a2 _ _ 0 er2 t3.mr (mk2.tr t3) (Nat.zero_le _) ?_⟩
    cases hq3 : ON P G n fuel call (dr call n) false body e2 (h2.put l (.loop 1 n' e' ps' asg' body' pend')) n2 with
    | bad => rw [hq3] at hm; cases hm
    | nrm e3 h3 n3 =>
     rw [hq3] at hm
     intro σ3 w3 a3 t4 _ _
     obtain ⟨w4, h5, rfl, h6⟩ := NC (P := P) hm none rfl rfl rfl t4.mr (t4.ext _ _ hL2)
     exact ⟨_, w4, h5, σ3, _, rfl, VR.bool, (t2.trans t3).trans (t4.trans h6)⟩
    | ext id e3 h3 n3 =>
     rw [hq3] at hm
     intro σ3 w3 a3 t4 _ _
     obtain ⟨w4, h5, rfl, h6⟩ := NC (P := P) hm (some (.exit id)) rfl rfl rfl t4.mr (t4.ext _ _ hL2)
     exact ⟨_, w4, h5, σ3, _, rfl, VR.bool, (t2.trans t3).trans (t4.trans h6)⟩
    | ret e3 h3 n3 =>
     rw [hq3] at hm
     intro σ3 w3 a3 t4 _ _
     obtain ⟨w4, h5, rfl, h6⟩ := NC (P := P) hm (some .ret) rfl rfl rfl t4.mr (t4.ext _ _ hL2)
     exact ⟨_, w4, h5, σ3, _, rfl, VR.bool, (t2.trans t3).trans (t4.trans h6)⟩
   ·cases hm
 ·cases hm
theorem X9 {P : Program} {G fuel : Nat} {dr : CallF → Nat → RegF} {base : CallF} (hb : V4 P G base) (hd : ∀ call n, CallsOk P G call → XK P G n (dr call n)) : ∀ d, CallsOk P G (NR P G fuel dr base d)
 | 0 => by
  refine ⟨fun f args h nx v h' nx' hlt hm => ?_, fun l args h nx v h' nx' hm => ?_⟩
  ·have hm : bo (Nat.blt f P.funcs.size) (base f args h nx) OR.bad = .ok v h' nx' := hm
   exact hb f args h nx v h' nx' (BE hm (by simp)).2
  ·have hm : bo (Nat.blt (P.funcs.size + l) P.funcs.size) (base (P.funcs.size + l) args h nx) OR.bad = .ok v h' nx' := hm
   have := AZ (BE hm (by simp)).1
   omega
 | d + 1 => by
  have ih := X9 (fuel := fuel) hb hd d
  refine ⟨fun f args h nx v h' nx' hlt hm => ?_, fun l args h nx v h' nx' hm => ?_⟩
  ·have hm : bo (Nat.blt f P.funcs.size) (@OR.rec (fun _ => OR) (aI P G fuel dr (NR P G fuel dr base d) f args h nx) .ok (base f args h nx)) (GZ (Nat.sub f P.funcs.size) (fun l => QN P G fuel dr (NR P G fuel dr base d) l args h nx)) = .ok v h' nx' := hm
   have hlt' : Nat.blt f P.funcs.size = true := Nat.ble_eq_true_of_le hlt
   rw [hlt', CG] at hm
   cases hq : base f args h nx with
   | bad => rw [hq] at hm; exact oU ih (fun n => hd _ n ih) f args h nx v h' nx' hm
   | ok v2 h2 n2 => rw [hq] at hm; exact hb f args h nx v h' nx' (hq.trans hm)
  ·have hm : bo (Nat.blt (P.funcs.size + l) P.funcs.size) (@OR.rec (fun _ => OR) (aI P G fuel dr (NR P G fuel dr base d) (P.funcs.size + l) args h nx) .ok (base (P.funcs.size + l) args h nx)) (GZ (Nat.sub (P.funcs.size + l) P.funcs.size) (fun l => QN P G fuel dr (NR P G fuel dr base d) l args h nx)) = .ok v h' nx' := hm
   cases hlt' : Nat.blt (P.funcs.size + l) P.funcs.size with
   | true => have := AZ hlt'; omega
   | false =>
    rw [hlt', BV, DN, show Nat.sub (P.funcs.size + l) P.funcs.size = l from Nat.add_sub_cancel_left ..] at hm
    exact gY ih (fun n => hd _ n ih) l args h nx v h' nx' hm
end
section
section
variable {P : Program} {G : Nat} {o : Oper} {e e' : Tb Value} {h h' : Hp} {nx nx' : Nat} {v : Value} {call : CallF}
theorem KO : ∀ {l : List Operand}, (∀ x ∈ l, evO G e x = evO G e' x) → evL G e l = evL G e' l
 | [], _ => rfl
 | x :: l, he => by
  show oo (evO G e x) none (fun v => oo (evL G e l) none (fun vs => some (v :: vs))) = oo (evO G e' x) none (fun v => oo (evL G e' l) none (fun vs => some (v :: vs)))
  rw [he x (by simp), KO (fun y hy => he y (by simp [hy]))]
theorem O1 : ∀ {l : List (Nat × Operand)}, (∀ x ∈ l, evO G e x.2 = evO G e' x.2) → evP G e l = evP G e' l
 | [], _ => rfl
 | x :: l, he => by
  show oo (evO G e x.2) none (fun v => oo (evP G e l) none (fun vs => some ((x.1, v) :: vs))) = oo (evO G e' x.2) none (fun v => oo (evP G e' l) none (fun vs => some ((x.1, v) :: vs)))
  rw [he x (by simp), O1 (fun y hy => he y (by simp [hy]))]
theorem LD : ∀ {l : List Operand}, (∀ x ∈ l, evO G e x = evO G e' x) → JP G e l = JP G e' l
 | [], _ => rfl
 | x :: l, he => by
  show (match evO G e x with | some v => bo (O0 v) (JP G e l) false | none => false) = (match evO G e' x with | some v => bo (O0 v) (JP G e' l) false | none => false)
  rw [he x (by simp), LD (fun y hy => he y (by simp [hy]))]
theorem W6 (hsel : ∀ cs b, o.op ≠ .select cs b) (he : ∀ x ∈ o.op.operands.toList, evO G e x = evO G e' x) : DW P G e h nx o = DW P G e' h nx o := by
 unfold DW
 rw [LD he, execOp_congr (ρ := fun x => (evO G e x).getD undef) (ρ' := fun x => (evO G e' x).getD undef) o hsel (fun x hx => by rw [he x (by simpa using hx)])]
theorem YG {op : BinOp} {t : TypeId} {a b : Option Value} (hf : DW P G e h nx o = DW P G e' h nx o) : dN P G e h nx o op t a b = dN P G e' h nx o op t a b := by
 cases a with
 | none => rfl
 | some a => cases b with
  | none => rfl
  | some b =>
   show Z5 a b P G e h nx o op t = Z5 a b P G e' h nx o op t
   cases a <;> simp only [Z5, RU, Z6, O7, hf]
theorem W7 {s d : TypeId} {a : Option Value} (hf : DW P G e h nx o = DW P G e' h nx o) : KA P G e h nx o s d a = KA P G e' h nx o s d a := by
 unfold KA; simp only [hf]
theorem QR {b : Builtin} {args : List Operand} {ts : List TypeId} (hf : DW P G e h nx o = DW P G e' h nx o) (he : ∀ x ∈ args, evO G e x = evO G e' x) : E5 P G e h nx o b args ts = E5 P G e' h nx o b args ts := by
 unfold E5
 split
 ·rw [he _ (by simp)]
 ·rw [he _ (by simp), he _ (by simp)]
 ·rw [he _ (by simp), he _ (by simp)]
 ·rw [he _ (by simp)]
 ·exact hf
 ·exact hf
 ·rfl
theorem HT {x : Option Operand} (he : ∀ y ∈ x.toList, evO G e y = evO G e' y) : x.map (evO G e) = x.map (evO G e') := by
 cases x with
 | none => rfl
 | some y => simp [he y (by simp)]
theorem dL (he : ∀ x ∈ o.op.operands.toList, evO G e x = evO G e' x) : mOp P G call e h nx o = mOp P G call e' h nx o := by
 have hfl : (∀ cs b, o.op ≠ .select cs b) → DW P G e h nx o = DW P G e' h nx o := fun hs => W6 hs he
 rw [NN, NN]
 unfold sOp
 cases ho : o.op
 case move x => show QQ h nx (evO G e x) = QQ h nx (evO G e' x); rw [he x (by simp [ho, Op.operands])]
 case assign x => show QQ h nx (evO G e x) = QQ h nx (evO G e' x); rw [he x (by simp [ho, Op.operands])]
 case pick c x y => show SZ h nx (evO G e c) (evO G e x) (evO G e y) = _; rw [he c (by simp [ho, Op.operands]), he x (by simp [ho, Op.operands]), he y (by simp [ho, Op.operands])]; rfl
 case alloc => rfl
 case box el x => show dM h nx el (evO G e x) = _; rw [he x (by simp [ho, Op.operands])]; rfl
 case build t ps => show NS P h nx t (evP G e ps.toList) = _; rw [O1 (fun x hx => he x.2 (by simp only [ho, Op.operands]; simp; exact ⟨x.1, by simpa using hx⟩))]; rfl
 case buildSlice t m ps => show FN P h nx t m (evP G e ps.toList) = _; rw [O1 (fun x hx => he x.2 (by simp only [ho, Op.operands]; simp; exact ⟨x.1, by simpa using hx⟩))]; rfl
 case insert t m k x => show KJ P h nx t (evO G e m) (evO G e k) (evO G e x) = _; rw [he m (by simp [ho, Op.operands]), he k (by simp [ho, Op.operands]), he x (by simp [ho, Op.operands])]; rfl
 case load t x => show J5 P h nx t (evO G e x) = _; rw [he x (by simp [ho, Op.operands])]; rfl
 case store t x y => show NK P h nx t (evO G e x) (evO G e y) = _; rw [he x (by simp [ho, Op.operands]), he y (by simp [ho, Op.operands])]; rfl
 case nilCheck x => show W5 h nx (evO G e x) = _; rw [he x (by simp [ho, Op.operands])]; rfl
 case binOp op t x y t' =>
  show dN P G e h nx o op t (evO G e x) (evO G e y) = _
  rw [he x (by simp [ho, Op.operands]), he y (by simp [ho, Op.operands])]
  exact YG (hfl (fun cs b hh => by rw [ho] at hh; cases hh))
 case unOp => exact hfl (fun cs b hh => by rw [ho] at hh; cases hh)
 case convert s d x =>
  show KA P G e h nx o s d (evO G e x) = _
  rw [he x (by simp [ho, Op.operands])]
  exact W7 (hfl (fun cs b hh => by rw [ho] at hh; cases hh))
 case sliceToArrayPointer t x => show dO P h nx t (evO G e x) = _; rw [he x (by simp [ho, Op.operands])]; rfl
 case makeInterface t x => show NP P h nx t (evO G e x) = _; rw [he x (by simp [ho, Op.operands])]; rfl
 case makeFunc f xs ys => show T0 h nx f (evL G e xs.toList) (evL G e ys.toList) = _; rw [KO (fun x hx => he x (by simp only [ho, Op.operands]; simp; left; simpa using hx)), KO (fun x hx => he x (by simp only [ho, Op.operands]; simp; right; simpa using hx))]; rfl
 case makeMap t r => show J4 P h nx t (r.map (evO G e)) = _; rw [HT (fun y hy => he y (by simp only [ho, Op.operands]; simpa using hy))]; rfl
 case makeSlice t x y => show GK P h nx t (evO G e x) (evO G e y) = _; rw [he x (by simp [ho, Op.operands]), he y (by simp [ho, Op.operands])]; rfl
 case slice t x lo hi mx =>
  show NL P h nx t (evO G e x) (lo.map (evO G e)) (hi.map (evO G e)) (mx.map (evO G e)) = _
  rw [he x (by simp [ho, Op.operands]), HT (x := lo) (fun y hy => he y (by simp only [ho, Op.operands]; simp at hy; simp [hy])), HT (x := hi) (fun y hy => he y (by simp only [ho, Op.operands]; simp at hy; simp [hy])), HT (x := mx) (fun y hy => he y (by simp only [ho, Op.operands]; simp at hy; simp [hy]))]; rfl
 case fieldAddr s x f => show EV P h nx s f (evO G e x) = _; rw [he x (by simp [ho, Op.operands])]; rfl
 case field s x f => show K9 P h nx s f (evO G e x) = _; rw [he x (by simp [ho, Op.operands])]; rfl
 case indexAddr t x i => show E7 P h nx t (evO G e x) (evO G e i) = _; rw [he x (by simp [ho, Op.operands]), he i (by simp [ho, Op.operands])]; rfl
 case index t x i => show NO P h nx t (evO G e x) (evO G e i) = _; rw [he x (by simp [ho, Op.operands]), he i (by simp [ho, Op.operands])]; rfl
 case lookup t x i ok => show KL P h nx t ok (evO G e x) (evO G e i) = _; rw [he x (by simp [ho, Op.operands]), he i (by simp [ho, Op.operands])]; rfl
 case mapUpdate t m k x => show KJ P h nx t (evO G e m) (evO G e k) (evO G e x) = _; rw [he m (by simp [ho, Op.operands]), he k (by simp [ho, Op.operands]), he x (by simp [ho, Op.operands])]; rfl
 case range t x => show UC P h nx t (evO G e x) = _; rw [he x (by simp [ho, Op.operands])]; rfl
 case next x b => show aH h nx b (evO G e x) = _; rw [he x (by simp [ho, Op.operands])]; rfl
 case mapEntry t m k => show KK P h nx t (evO G e m) (evO G e k) = _; rw [he m (by simp [ho, Op.operands]), he k (by simp [ho, Op.operands])]; rfl
 case entryStore t m s x => show IS h nx (evO G e m) (evO G e s) (evO G e x) = _; rw [he m (by simp [ho, Op.operands]), he s (by simp [ho, Op.operands]), he x (by simp [ho, Op.operands])]; rfl
 case entry x => show NQ h nx (evO G e x) = _; rw [he x (by simp [ho, Op.operands])]; rfl
 case extract x i => show HA h nx i (evO G e x) = _; rw [he x (by simp [ho, Op.operands])]; rfl
 case call c =>
  obtain ⟨callee, args, ts⟩ := c
  cases callee with
  | value f =>
   show KB P call h nx (evO G e f) (evL G e args.toList) = KB P call h nx (evO G e' f) (evL G e' args.toList)
   rw [he f (by simp [ho, Op.operands, Call.operands]), KO (fun x hx => he x (by simp only [ho, Op.operands, Call.operands]; simp; right; simpa using hx))]
  | builtin b =>
   show E5 P G e h nx o b args.toList ts.toList = E5 P G e' h nx o b args.toList ts.toList
   exact QR (hfl (fun cs b hh => by rw [ho] at hh; cases hh)) (fun x hx => he x (by simp only [ho, Op.operands, Call.operands]; simpa using hx))
  | invoke r m => rfl
 all_goals rfl
theorem UE {ops : Array Oper} {g : Nat × Bool} (he : ∀ d, (ops[g.1]?).bind (·.dst) = some d → e.get d = e'.get d) : GL ops e g = GL ops e' g := by
 unfold GL
 split
 ·rename_i d hd; rw [he d hd]
 ·rfl
def S1 (P : Program) (G : Nat) (o : Oper) (e : Tb Value) (id : Nat) (v : Value) (B : Bl) : Prop :=
 ∀ σ w ρ, OE σ G e ρ → ∃ (L : Loc) (u : Value) (w' : World), (execOp ρ o).run P w = .ok (.value u) w' ∧ L.blk = w.heap.size ∧ (w'.os = w.os ∧ w'.tape = w.tape ∧ w'.output = w.output) ∧ w'.heap.size = w.heap.size + 1 ∧ (∀ r, r < w.heap.size → w'.heap[r]? = w.heap[r]?) ∧
  ∀ σ' : Sg, σ.le σ' → σ' id = some L → BR σ' L w' B ∧ VR σ' v u
theorem BR.row {σ σ' : Sg} {w w' : World} (el : TypeId) (c : Tb Value) {cs us : List Value} {row : Array Value} {fz : Nat × Nat} (hs : σ.le σ') (hv : VRs σ cs us) (hc : ∀ i, c.get i = cs[i]?)
 (hb : w'.heap[w.heap.size]? = some (.cells row el fz)) (hrow : ∀ (i : Nat) u, us[i]? = some u → row[i]? = some u) (hle : us.length ≤ row.size) (hfz : fz.1 = fz.2 ∨ row.size ≤ fz.1) : BR σ' ⟨w.heap.size, 0, row.size⟩ w' (.cells el cs.length 0 c) :=
 ⟨row, fz, hb, rfl, by simp [hv.len, hle], fun i => by rw [hc]; simp, fun i v hi => by
  rw [hc] at hi
  obtain ⟨u, hu, hr⟩ := hv.get hi
  exact ⟨u, by rw [Nat.zero_add]; exact hrow i u hu, hr.mono hs⟩, fun _ => hfz⟩
theorem KN {el : TypeId} {id : Nat} {c : Tb Value} {n : Nat} {mk : Option Addr → Value} (hmk : ∀ σ u' id (L : Loc), σ id = some L → L.base = 0 → u' = mk (some ⟨L.blk, 0, none⟩) → VR σ (mk (some ⟨id, 0, none⟩)) u')
 (hp : ∀ σ w ρ, OE σ G e ρ → ∃ cs us : List Value, VRs σ cs us ∧ cs.length = n ∧ (∀ i, c.get i = cs[i]?) ∧ (execOp ρ o).run P w = .ok (.value (mk (some ⟨w.heap.size, 0, none⟩))) (w.alloc (.cells us.toArray el))) :
 S1 P G o e id (mk (some ⟨id, 0, none⟩)) (.cells el n 0 c) := fun σ w ρ oe => by
 obtain ⟨cs, us, hv, hn, hc, hrun⟩ := hp σ w ρ oe
 subst hn
 refine ⟨⟨w.heap.size, 0, us.toArray.size⟩, _, _, hrun, rfl, ⟨rfl, rfl, rfl⟩, by simp, fun r hr => Below.heap_alloc w _ r hr, fun σ' hs hL => ⟨?_, hmk σ' _ id _ hL rfl rfl⟩⟩
 exact BR.row el c hs hv hc (heap_alloc_new w _) (fun i u hu => by simpa using hu) (by simp) (.inl rfl)
theorem iU (σ : Sg) (u' : Value) (id : Nat) (L : Loc) (h : σ id = some L) (hb : L.base = 0) (hu : u' = .pointer (some ⟨L.blk, 0, none⟩)) : VR σ (.pointer (some ⟨id, 0, none⟩)) u' := by
 subst hu
 have := VRs.ptr (off := 0) h (VRs.nil (σ := σ))
 rw [hb] at this; exact this
theorem pC (n c : Nat) (σ : Sg) (u' : Value) (id : Nat) (L : Loc) (h : σ id = some L) (hb : L.base = 0) (hu : u' = .slice (some ⟨L.blk, 0, none⟩) n c) : VR σ (.slice (some ⟨id, 0, none⟩) n c) u' := by
 subst hu
 have := VRs.sl (off := 0) (n := n) (c := c) h (VRs.nil (σ := σ))
 rw [hb] at this; exact this
theorem FE {id : Nat} {B B0 : Bl} {u : Value} (hB : h'.get id = some B) (hm : KS .lf id B0 u = .ok v h' nx') (hf : S1 P G o e id u B0) : S1 P G o e id v B := by
 obtain ⟨rfl, rfl, rfl⟩ := E4 hm
 rw [Tb.get_put_same] at hB; injection hB with hB; subst hB
 exact hf
theorem T6 (hm : DW P G e h nx o = .ok v h' nx') : h' = h := by
 obtain ⟨h1, hm⟩ := BE hm (by simp)
 split at hm
 ·obtain ⟨h2, hm⟩ := BE hm (by simp)
  exact (BF hm).2.1.symm
 ·cases hm
theorem aB {id : Nat} {B : Bl} (hB : (Tb.lf : Hp).get id = some B) {p : Prop} : p := by rw [Tb.get_lf] at hB; cases hB
def L7 (P : Program) : Op → Nat
 | .alloc _ | .box _ _ | .buildSlice _ _ _ | .makeMap _ _ | .makeSlice _ _ _ => 1
 | .convert s d _ => match P.underlying s, P.underlying d with
  | some .string, some (.slice _) => 1
  | _, some (.slice _) => 2
  | _, _ => 0
 | .store _ _ _ | .mapUpdate _ _ _ _ | .insert _ _ _ _ | .range _ _ | .next _ _ | .mapEntry _ _ _ | .entryStore _ _ _ _ => 2
 | .call c => match c.callee with
  | .builtin .len => 0
  | .builtin .min => 0
  | .builtin .max => 0
  | _ => 2
 | _ => 0
theorem jN {id : Nat} {B : Bl} (hk : L7 P o.op = 1) (hm : mOp P G call e .lf id o = .ok v h' nx') (hB : h'.get id = some B) : S1 P G o e id v B := by
 rw [NN] at hm
 unfold sOp at hm
 cases ho : o.op <;> rw [ho] at hm hk <;> try (simp only [L7] at hk; done)
 case alloc el =>
  have hm : QS P .lf id el = .ok v h' nx' := hm
  unfold QS at hm
  split at hm
  ·rename_i z hz
   obtain ⟨i, hi, hiz, hfl⟩ := CP hz
   refine FE hB hm (KN (mk := fun a => .pointer a) iU fun σ w ρ oe => ⟨_, z.cells.toList, (VR.of_flat (σ := σ) hfl).cells, rfl, fun i => Tb.get_of _ i, ?_⟩)
   unfold execOp
   simp [ho, Instr.alloc, zeroValue, typeInfo, hi, hiz, newVar, newRow]
  ·cases hm
 case box el x =>
  have hm : dM .lf id el (evO G e x) = .ok v h' nx' := hm
  unfold dM at hm
  split at hm
  ·rename_i a ha
   refine FE hB hm (KN (mk := fun a => .pointer a) iU fun σ w ρ oe => ⟨_, (ρ x).cells.toList, (oe x _ ha).cells, rfl, fun i => Tb.get_of _ i, ?_⟩)
   unfold execOp
   simp [ho, Instr.box, newVar, newRow]
  ·cases hm
 case buildSlice t len ps =>
  have hm : FN P .lf id t len (evP G e ps.toList) = .ok v h' nx' := hm
  unfold FN at hm
  split at hm
  ·rename_i qs hq
   split at hm
   ·rename_i el s ht
    split at hm
    ·rename_i z hz
     obtain ⟨hc, hm1⟩ := BE hm (by simp)
     clear hm
     have hm := hm1; clear hm1
     simp only [Bool.and_eq_true] at hc
     have hzs := Nat.eq_of_beq_eq_true hc.1
     have hpos := AZ hc.2.1
     have hsm := Nat.le_of_ble_eq_true hc.2.2
     split at hm
     ·rename_i cs hf
      obtain ⟨hu, ie, hie, hies⟩ := JH ht
      obtain ⟨i, hi, hiz, hfl⟩ := CP hz
      rw [hie] at hi; injection hi with hi; subst hi
      subst hies
      refine FE hB hm (KN (mk := fun a => .slice a len len) (pC len len) fun σ w ρ oe => ?_)
      obtain ⟨h1, h2⟩ := oe.parts hq
      have e1 : (ps.toList.map fun p => (p.1, ρ p.2)).map (·.1) = ps.toList.map (·.1) := by rw [List.map_map]; rfl
      have e2 : (ps.toList.map fun p => (p.1, ρ p.2)).map (·.2) = ps.toList.map fun p => ρ p.2 := by rw [List.map_map]; rfl
      obtain ⟨us', h3, h4⟩ := MV (σ := σ) (qs := ps.toList.map fun p => (p.1, ρ p.2)) hf (((VR.of_flat (σ := σ) hfl).cells).zeros len) (by rw [e1]; exact h1) (by rw [e2]; exact h2)
      refine ⟨cs, us', h4, rfl, fun i => Tb.get_of _ i, ?_⟩
      have hzs' : z.cells.size = ie.size := by simpa using hzs
      by_cases h0 : len = 0
      ·subst h0
       have e3 : Instr.fill (fun i => some (i * ie.size, ie.size)) #[] (ps.toList.map fun p => (p.1, ρ p.2)) = some us'.toArray := h3
       unfold execOp
       simp only [ho, Instr.buildSlice, Sem.run_bind, run_underlying hu, Result.andThen_ok, sizeOf, typeInfo]
       simp [hie, e3, newRow, show Array.range 0 = #[] from rfl]
      ·have hr := run_buildSlice (P := P) w t el len (ps.map fun (i, x) => (i, ρ x)) us'.toArray ie z hu hie hiz (by omega) (Nat.ne_of_gt (Nat.mul_pos (Nat.pos_of_ne_zero h0) hpos)) (by
        rw [QG, ← hzs', MM _ _ (by omega), hzs']; exact h3)
       unfold execOp
       simp only [ho, Sem.run_bind, hr, Result.andThen_ok]
       rfl
     ·cases hm
    ·cases hm
   ·cases hm
  ·cases hm
 case makeSlice t l c =>
  have hm : GK P .lf id t (evO G e l) (evO G e c) = .ok v h' nx' := hm
  unfold GK at hm
  split at hm
  ·rename_i n k h1 h2
   split at hm
   ·rename_i el s ht
    split at hm
    ·rename_i z i hz hi
     obtain ⟨hc, hm1⟩ := BE hm (by simp)
     clear hm
     have hm := hm1; clear hm1
     simp only [Bool.and_eq_true] at hc
     have hzs := Nat.eq_of_beq_eq_true hc.1
     have hpos := AZ hc.2.1
     have hnk := Nat.le_of_ble_eq_true hc.2.2.1
     have hsm := Nat.le_of_ble_eq_true hc.2.2.2.1
     have hby := Nat.le_of_ble_eq_true hc.2.2.2.2
     obtain ⟨hu, ie, hie, hies⟩ := JH ht
     rw [hi] at hie; injection hie with hie; subst hie
     subst hies
     obtain ⟨i', hi', hiz, hfl⟩ := CP hz
     rw [hi] at hi'; injection hi' with hi'; subst hi'
     have hzs' : z.cells.size = i.size := by simpa using hzs
     have hlen : (DP z.cells.toList k).length = k * i.size := by rw [GN]; simp [hzs']
     refine FE hB hm (KN (mk := fun a => .slice a n k) (pC n k) fun σ w ρ oe => ⟨DP z.cells.toList k, DP z.cells.toList k, ((VR.of_flat (σ := σ) hfl).cells).zeros k, hlen, fun j => ?_, ?_⟩)
     ·split
      ·rename_i x hx
       rw [Tb.get_repN, hx]
       have : ∀ n, DP [x] n = List.replicate n x := fun n => by
        induction n with
        | zero => rfl
        | succ n ih => rw [FG, ih]; rfl
       rw [this]
      ·rw [Tb.get_of]
     ·have hbytes : (i.bytes : Int) * (k : Int) ≤ 281474976710656 := by
       have : i.bytes * k ≤ 16777216 * 16777216 := Nat.mul_le_mul hby hsm
       have h9 : ((i.bytes * k : Nat) : Int) ≤ ((16777216 * 16777216 : Nat) : Int) := Int.ofNat_le.2 this
       simpa using h9
      have hrun := run_make (P := P) w t el i z hu hi hiz .i64 .i64 (n : Int) (k : Int) (by omega) (by omega) hbytes (by omega)
      have hmade : madeCells z.cells ((k : Int).toNat * i.size) = (DP z.cells.toList k).toArray := by
       rw [← hzs']; exact MM z.cells k (by omega)
      rw [hmade] at hrun
      have hl := (oe l _ h1).scal_inv rfl
      have hcc := (oe c _ h2).scal_inv rfl
      unfold execOp
      simp only [ho, hl, hcc, Sem.run_bind]
      have e1 : Int.ofNat n = (n : Int) := rfl
      have e2 : Int.ofNat k = (k : Int) := rfl
      rw [e1, e2, hrun]
      rfl
    ·cases hm
   ·cases hm
  ·cases hm
 case makeMap t r =>
  replace hm : J4 P .lf id t (r.map (evO G e)) = .ok v h' nx' := hm
  have fin : ∀ (run : ∀ σ w ρ, OE σ G e ρ → (execOp ρ o).run P w = .ok (.value (.map (some w.heap.size))) (w.alloc (.map #[] 0))), S1 P G o e id (.map (some id)) (.map 0 [] []) := fun run σ w ρ oe =>
   ⟨⟨w.heap.size, 0, 0⟩, _, _, run σ w ρ oe, rfl, ⟨rfl, rfl, rfl⟩, by simp, fun r hr => Below.heap_alloc w _ r hr, fun σ' _ hL => ⟨⟨#[], heap_alloc_new w _, .nil, .nil, rfl⟩, .map (L := ⟨w.heap.size, 0, 0⟩) hL .nil⟩⟩
  unfold J4 at hm
  split at hm
  ·rename_i hr
   obtain rfl := map_nil hr
   refine FE hB hm (fin fun σ w ρ oe => ?_)
   unfold execOp
   simp [ho, Instr.makeMap]
  ·rename_i k n hr
   split at hm
   ·rename_i kt el hu
    refine FE hB hm (fin fun σ w ρ oe => ?_)
    cases r with
    | none => cases hr
    | some x =>
     simp only [Option.map_some, Option.some.injEq] at hr
     have hx := (oe x _ hr).scal_inv rfl
     unfold execOp
     simp [ho, hx, Instr.makeMap, run_underlying hu, asInt, asIntOf]
   ·cases hm
  ·cases hm
 case convert s d x =>
  have hm : KA P G e .lf id o s d (evO G e x) = .ok v h' nx' := hm
  simp only [L7] at hk
  split at hk
  ·rename_i el hs hd
   unfold KA at hm
   rw [hd, hs] at hm
   split at hm
   ·have := T6 hm; subst this; exact aB hB
   ·rename_i b h1
    simp only at hm
    split at hm
    ·rename_i hel
     refine FE hB hm fun σ w ρ oe => ?_
     have hx := (oe x _ h1).scal_inv rfl
     have hrun := Lib.run_convert_string_bytes (P := P) w s d el b hs hd hel
     have hsz : b.size = b.data.toList.length := by obtain ⟨dd⟩ := b; rfl
     have hge := grownCap_ge w b.size 0 el
     have hcs : (Lib.bytesCells w el b).size = grownCap w b.size 0 el := by
      unfold Lib.bytesCells
      rw [Array.size_append, Array.size_map, Array.size_replicate]
      have : b.data.size = b.size := by obtain ⟨dd⟩ := b; rfl
      omega
     refine ⟨⟨w.heap.size, 0, (Lib.bytesCells w el b).size⟩, .slice (some ⟨w.heap.size, 0, none⟩) b.size (grownCap w b.size 0 el), Lib.bytesWorld w el b, by unfold execOp; simp only [ho, hx, Sem.run_bind, hrun, Result.andThen_ok]; rfl, rfl, ⟨rfl, rfl, rfl⟩, Lib.bytesWorld_size w el b, fun r hr => Lib.bytesWorld_at_old w el b r hr, fun σ' hs' hL => ⟨?_, ?_⟩⟩
     ·have := BR.row (σ := σ) (σ' := σ') (w := w) (w' := Lib.bytesWorld w el b) (cs := b.data.toList.map fun x => Value.int .u8 (.ofNat x.toNat)) (us := b.data.toList.map fun x => Value.int .u8 (.ofNat x.toNat)) el (Tb.of (b.data.toList.map fun x => Value.int .u8 (.ofNat x.toNat))) hs'
       (VRs.of_get rfl fun i x hx => ⟨x, hx, by
        obtain ⟨y, _, rfl⟩ := List.mem_map.1 (List.mem_of_getElem? hx)
        exact VR.int⟩) (fun i => Tb.get_of _ i) (Lib.bytesWorld_at_new w el b) (fun i u hu => by
        have hi := (List.getElem?_eq_some_iff.1 hu).1
        rw [List.length_map] at hi
        unfold Lib.bytesCells
        rw [Array.getElem?_append_left (by rw [Array.size_map]; simpa using hi)]
        rw [List.getElem?_map] at hu
        simpa using hu) (by rw [List.length_map, hcs, ← hsz]; exact hge) (.inr (Nat.le_refl _))
      rw [List.length_map] at this
      exact this
     ·rw [← hsz]
      exact .slo (L := ⟨w.heap.size, 0, (Lib.bytesCells w el b).size⟩) hL hge (by simp [hcs]) .nil
    ·cases hm
   ·split at hm
    ·rename_i hd2; cases hd2
    ·cases hm
   ·split at hm
    ·split at hm
     ·split at hm
      ·obtain ⟨_, hm⟩ := BE hm (by simp)
       have := (BF hm).2.1; subst this; exact aB hB
      ·cases hm
     ·cases hm
    ·split at hm
     ·rename_i hd2; exact aB hd2
     ·cases hm
   ·have := T6 hm; subst this; exact aB hB
  ·cases hk
  ·cases hk
 case call c => simp only [L7] at hk; split at hk <;> cases hk
 all_goals cases hk
end
end
section
def nH : Option Nat → Option Nat → Bool
 | none, none => true
 | some a, some b => Nat.beq a b
 | _, _ => false
def nI : Option Addr → Option Addr → Bool
 | none, none => true
 | some ⟨a, i, s⟩, some ⟨b, j, t⟩ => bo (Nat.beq a b) (bo (Nat.beq i j) (nH s t) false) false
 | _, _ => false
def q7 (ih : List Value → List Value → Bool) : Value → Value → Bool
 | .bool a, .bool b => a == b
 | .int k a, .int k' b => bo (Nat.beq (ikn k) (ikn k')) (iEq a b) false
 | .string a, .string b => byEq a.data.toList b.data.toList
 | .pointer a, .pointer b => nI a b
 | .slice a n c, .slice b m d => bo (nI a b) (bo (Nat.beq n m) (Nat.beq c d) false) false
 | .map a, .map b => nH a b
 | .nilFunc, .nilFunc => true
 | .nilIface, .nilIface => true
 | .agg ⟨a⟩, .agg ⟨b⟩ => ih a b
 | .tuple ⟨a⟩, .tuple ⟨b⟩ => ih a b
 | .iface t a, .iface u b => bo (Nat.beq t u) (ih [a] [b]) false
 | .func (.func f) ⟨a⟩ ⟨b⟩, .func (.func g) ⟨c⟩ ⟨d⟩ => bo (Nat.beq f g) (bo (ih a c) (ih b d) false) false
 | _, _ => false
def pZ (ih : List Value → List Value → Bool) : List Value → List Value → Bool
 | [], [] => true
 | x :: xs, y :: ys => bo (q7 ih x y) (ih xs ys) false
 | _, _ => false
def pY (n : Nat) : List Value → List Value → Bool :=
 @Nat.rec (fun _ => List Value → List Value → Bool) (fun _ _ => false) (fun _ ih => pZ ih) n
theorem ZZ {a b : Option Nat} (h : nH a b = true) : a = b := by
 unfold nH at h
 split at h
 ·rfl
 ·rw [Nat.eq_of_beq_eq_true h]
 ·cases h
theorem aA {a b : Option Addr} (h : nI a b = true) : a = b := by
 unfold nI at h
 split at h
 ·rfl
 ·obtain ⟨h1, h⟩ := BE h (by simp)
  obtain ⟨h2, h⟩ := BE h (by simp)
  rw [Nat.eq_of_beq_eq_true h1, Nat.eq_of_beq_eq_true h2, ZZ h]
 ·cases h
theorem m7 {ih : List Value → List Value → Bool} (hih : ∀ xs ys, ih xs ys = true → xs = ys) {x y : Value} (h : q7 ih x y = true) : x = y := by
 unfold q7 at h
 split at h
 ·rw [eq_of_beq h]
 ·obtain ⟨h1, h⟩ := BE h (by simp)
  rw [UL] at h
  rw [PI h1, eq_of_beq h]
 ·rename_i a b
  rw [N2] at h
  have : a.data.toList = b.data.toList := eq_of_beq h
  obtain ⟨⟨d⟩⟩ := a; obtain ⟨⟨d'⟩⟩ := b
  simp only at this; subst this; rfl
 ·rw [aA h]
 ·obtain ⟨h1, h⟩ := BE h (by simp)
  obtain ⟨h2, h⟩ := BE h (by simp)
  rw [aA h1, Nat.eq_of_beq_eq_true h2, Nat.eq_of_beq_eq_true h]
 ·rw [ZZ h]
 ·rfl
 ·rfl
 ·rw [hih _ _ h]
 ·rw [hih _ _ h]
 ·obtain ⟨h1, h⟩ := BE h (by simp)
  have := hih _ _ h
  injection this with this
  rw [Nat.eq_of_beq_eq_true h1, this]
 ·obtain ⟨h1, h⟩ := BE h (by simp)
  obtain ⟨h2, h⟩ := BE h (by simp)
  rw [Nat.eq_of_beq_eq_true h1, hih _ _ h2, hih _ _ h]
 ·cases h
theorem TS : ∀ (n : Nat) (xs ys : List Value), pY n xs ys = true → xs = ys
 | 0, _, _, h => by cases h
 | n + 1, xs, ys, h => by
  have h : pZ (pY n) xs ys = true := h
  unfold pZ at h
  split at h
  ·rfl
  ·obtain ⟨h1, h⟩ := BE h (by simp)
   rw [m7 (TS n) h1, TS n _ _ h]
  ·cases h
def veq (a b : Value) : Bool := pY 100000 [a] [b]
theorem fK {a b : Value} (h : veq a b = true) : a = b := by
 have := TS _ _ _ h
 injection this
def tb (m j : Nat) : Bool := Nat.beq (Nat.mod (Nat.div m (Nat.pow 2 j)) 2) 1
theorem M5 (m j : Nat) : tb m j = m.testBit j := by
 unfold tb
 rw [Nat.testBit_eq_decide_div_mod_eq]
 have e : Nat.mod (Nat.div m (Nat.pow 2 j)) 2 = m / 2 ^ j % 2 := rfl
 rw [e]
 cases hb : Nat.beq (m / 2 ^ j % 2) 1 with
 | true => have := Nat.eq_of_beq_eq_true hb; simp [this]
 | false => have : m / 2 ^ j % 2 ≠ 1 := fun e => by rw [e] at hb; simp at hb
            simp [this]
theorem TW (a b j : Nat) : tb (Nat.lor a b) j = (tb a j || tb b j) := by
 rw [M5, M5, M5]
 exact Nat.testBit_or a b j
theorem fX (i j : Nat) : tb (Nat.pow 2 i) j = decide (i = j) := by
 rw [M5]; exact Nat.testBit_two_pow
theorem ZM (j : Nat) : tb 0 j = false := by rw [M5]; simp
def OM (acc : List Nat) (es : List Edge) : Nat :=
 @List.rec Edge (fun _ => Nat) 0 (fun ed _ ih => bo (Region.binds .any ed) (Nat.lor (Nat.lor (Nat.pow 2 ed.on) ((acc[ed.on]?).getD 0)) ih) ih) es
theorem NJ {acc : List Nat} {j : Nat} : ∀ {es : List Edge}, tb (OM acc es) j = true → ∃ ed ∈ es, Region.binds .any ed = true ∧ (ed.on = j ∨ ∃ m, acc[ed.on]? = some m ∧ tb m j = true)
 | [], h => by rw [show OM acc [] = 0 from rfl, ZM] at h; cases h
 | ed :: es, h => by
  have h : tb (bo (Region.binds .any ed) (Nat.lor (Nat.lor (Nat.pow 2 ed.on) ((acc[ed.on]?).getD 0)) (OM acc es)) (OM acc es)) j = true := h
  cases hb : Region.binds .any ed with
  | false =>
   rw [hb, BV] at h
   obtain ⟨ed', h1, h2⟩ := NJ h
   exact ⟨ed', by simp [h1], h2⟩
  | true =>
   rw [hb, CG, TW, TW, fX, Bool.or_eq_true, Bool.or_eq_true, decide_eq_true_eq] at h
   rcases h with (h | h) | h
   ·exact ⟨ed, by simp, hb, .inl h⟩
   ·cases hq : acc[ed.on]? with
    | none => rw [hq, Option.getD_none, ZM] at h; cases h
    | some m => rw [hq, Option.getD_some] at h; exact ⟨ed, by simp, hb, .inr ⟨m, hq, h⟩⟩
   ·obtain ⟨ed', h1, h2⟩ := NJ h
    exact ⟨ed', by simp [h1], h2⟩
def G4 (l : List Oper) : List Nat → List Nat :=
 @List.rec Oper (fun _ => List Nat → List Nat) (fun acc => acc) (fun o _ ih acc => ih (acc ++ [OM acc o.after.toList])) l
theorem IB (o : Oper) (l : List Oper) (acc : List Nat) : G4 (o :: l) acc = G4 l (acc ++ [OM acc o.after.toList]) := rfl
theorem NI : ∀ (l : List Oper) (acc : List Nat) (i : Nat), i < acc.length → (G4 l acc)[i]? = acc[i]?
 | [], acc, i, _ => rfl
 | o :: l, acc, i, h => by
  rw [IB, NI l _ i (by simp; omega), List.getElem?_append_left h]
theorem SY : ∀ (l : List Oper) (acc : List Nat) (i : Nat) (o : Oper), l[i]? = some o → ∃ acc', (∀ j, acc'[j]? = if j < acc.length + i then (G4 l acc)[j]? else none) ∧ (G4 l acc)[acc.length + i]? = some (OM acc' o.after.toList)
 | [], _, _, _, h => by simp at h
 | o' :: l, acc, 0, o, h => by
  simp only [List.getElem?_cons_zero, Option.some.injEq] at h
  subst h
  refine ⟨acc, fun j => ?_, ?_⟩
  ·by_cases hj : j < acc.length
   ·rw [if_pos (by omega), NI _ _ _ hj]
   ·rw [if_neg (by omega), List.getElem?_eq_none (by omega)]
  ·rw [IB, NI _ _ _ (by simp), List.getElem?_append_right (by omega)]; simp
 | o' :: l, acc, i + 1, o, h => by
  obtain ⟨acc', h1, h2⟩ := SY l (acc ++ [OM acc o'.after.toList]) i o (by simpa using h)
  rw [List.length_append, List.length_singleton] at h1 h2
  refine ⟨acc', fun j => ?_, ?_⟩
  ·rw [IB, h1 j]
   by_cases hj : j < acc.length + 1 + i
   ·rw [if_pos hj, if_pos (by omega)]
   ·rw [if_neg hj, if_neg (by omega)]
  ·rw [IB, show acc.length + (i + 1) = acc.length + 1 + i by omega]; exact h2
structure Snap where
 h : Hp
 nx : Nat
 mt : Nat
 lo : Option Nat
structure Live where
 i : Nat
 m : Nat
 o : Oper
 e : Tb Value
 F : List (Nat × Bl)
 v : Value
structure DSt where
 e : Tb Value
 F : List (Nat × Bl)
 cur : Snap
 old : List Snap
 lv : List Live
 ld : List Nat
 v : Value
 kd : Nat
def dH (nx0 m : Nat) (F : List (Nat × Bl)) (sn : Snap) : Hp :=
 @List.rec (Nat × Bl) (fun _ => Hp) sn.h (fun p _ ih => bo (tb m p.1) (bo (tb sn.mt p.1) ih (ih.put (nx0 + p.1) p.2)) ih) F
def OV (nx0 : Nat) (F : List (Nat × Bl)) (sn : Snap) : Hp :=
 @List.rec (Nat × Bl) (fun _ => Hp) sn.h (fun p _ ih => bo (tb sn.mt p.1) ih (ih.put (nx0 + p.1) p.2)) F
theorem YV {nx0 m : Nat} {sn : Snap} {id : Nat} {B : Bl} : ∀ {F : List (Nat × Bl)}, (dH nx0 m F sn).get id = some B → sn.h.get id = some B ∨ ∃ j, (j, B) ∈ F ∧ id = nx0 + j ∧ tb m j = true ∧ tb sn.mt j = false
 | [], h => .inl h
 | p :: F, h => by
  have h : (bo (tb m p.1) (bo (tb sn.mt p.1) (dH nx0 m F sn) ((dH nx0 m F sn).put (nx0 + p.1) p.2)) (dH nx0 m F sn)).get id = some B := h
  have rec_ : (dH nx0 m F sn).get id = some B → sn.h.get id = some B ∨ ∃ j, (j, B) ∈ p :: F ∧ id = nx0 + j ∧ tb m j = true ∧ tb sn.mt j = false := fun h => by
   rcases YV h with h | ⟨j, h1, h2⟩
   ·exact .inl h
   ·exact .inr ⟨j, by simp [h1], h2⟩
  cases h1 : tb m p.1 with
  | false => rw [h1, BV] at h; exact rec_ h
  | true =>
   rw [h1, CG] at h
   cases h2 : tb sn.mt p.1 with
   | true => rw [h2, CG] at h; exact rec_ h
   | false =>
    rw [h2, BV, Tb.get_put] at h
    by_cases hid : id = nx0 + p.1
    ·rw [if_pos hid] at h; injection h with h; subst h
     exact .inr ⟨p.1, by simp, hid, h1, h2⟩
    ·rw [if_neg hid] at h; exact rec_ h
theorem TH {nx0 : Nat} {sn : Snap} {id : Nat} {B : Bl} : ∀ {F : List (Nat × Bl)}, (OV nx0 F sn).get id = some B → sn.h.get id = some B ∨ ∃ j, (j, B) ∈ F ∧ id = nx0 + j ∧ tb sn.mt j = false
 | [], h => .inl h
 | p :: F, h => by
  have h : (bo (tb sn.mt p.1) (OV nx0 F sn) ((OV nx0 F sn).put (nx0 + p.1) p.2)).get id = some B := h
  have rec_ : (OV nx0 F sn).get id = some B → sn.h.get id = some B ∨ ∃ j, (j, B) ∈ p :: F ∧ id = nx0 + j ∧ tb sn.mt j = false := fun h => by
   rcases TH h with h | ⟨j, h1, h2⟩
   ·exact .inl h
   ·exact .inr ⟨j, by simp [h1], h2⟩
  cases h2 : tb sn.mt p.1 with
  | true => rw [h2, CG] at h; exact rec_ h
  | false =>
   rw [h2, BV, Tb.get_put] at h
   by_cases hid : id = nx0 + p.1
   ·rw [if_pos hid] at h; injection h with h; subst h
    exact .inr ⟨p.1, by simp, hid, h2⟩
   ·rw [if_neg hid] at h; exact rec_ h
section
variable (P : Program) (G n : Nat) (call : CallF) (ops : Array Oper) (nx0 : Nat)
def eP (m : Nat) (o : Oper) (e : Tb Value) (F : List (Nat × Bl)) (v : Value) (sn : Snap) : Bool :=
 @OR.rec (fun _ => Bool) false (fun u _ _ => veq u v) (mOp P G call e (dH nx0 m F sn) sn.nx o)
def bE (m : Nat) (o : Oper) (e : Tb Value) (F : List (Nat × Bl)) (v : Value) (old : List Snap) : Snap → Bool :=
 @List.rec Snap (fun _ => Snap → Bool) (fun cur => oo cur.lo true (fun e0 => tb m e0)) (fun p _ ih cur => oo cur.lo true (fun e0 => bo (tb m e0) true (bo (eP P G call nx0 m o e F v p) (ih p) false))) old
def YW (e : Tb Value) (o : Oper) : Option Bool := oo o.guard (some true) (fun g => GL ops e g)
def kN (i m : Nat) (o : Oper) (s : DSt) : Option DSt :=
 match mOp P G call s.e (dH nx0 m s.F s.cur) s.cur.nx o with
 | .ok v _ _ => bo (bE P G call nx0 m o s.e s.F v s.old s.cur) (oo (QP n s.e o.dst v) none (fun e' => some ⟨e', s.F, s.cur, s.old, ⟨i, m, o, s.e, s.F, v⟩ :: s.lv, s.ld, v, 0⟩)) none
 | .bad => none
def kP (i : Nat) (o : Oper) (s : DSt) : Option DSt :=
 match mOp P G call s.e .lf (nx0 + i) o with
 | .ok v h' _ => oo (h'.get (nx0 + i)) none (fun B => oo (QP n s.e o.dst v) none (fun e' => some ⟨e', (i, B) :: s.F, s.cur, s.old, s.lv, s.ld, v, 1⟩))
 | .bad => none
def pK (i m : Nat) (o : Oper) (s : DSt) : Option DSt :=
 match mOp P G call s.e (dH nx0 m s.F s.cur) s.cur.nx o with
 | .ok v h' nx' => bo (s.ld.all (tb m ·) && s.lv.all (fun l => tb m l.i || eP P G call nx0 l.m l.o l.e l.F l.v ⟨h', nx', Nat.lor s.cur.mt m, some i⟩))
  (oo (QP n s.e o.dst v) none (fun e' => some ⟨e', s.F, ⟨h', nx', Nat.lor s.cur.mt m, some i⟩, s.cur :: s.old, s.lv.filter (fun l => !tb m l.i), i :: s.ld, v, 2⟩)) none
 | .bad => none
def bB (i m : Nat) (o : Oper) (s : DSt) : Option DSt :=
 match YW ops s.e o with
 | some false => oo (QP n s.e o.dst undef) none (fun e' => some ⟨e', s.F, s.cur, s.old, s.lv, s.ld, undef, 3⟩)
 | some true => match L7 P o.op with
  | 0 => kN P G n call nx0 i m o s
  | 1 => kP P G n call nx0 i o s
  | _ => pK P G n call nx0 i m o s
 | none => none
def dGo (l : List (Oper × Nat)) : Nat → DSt → Option DSt :=
 @List.rec (Oper × Nat) (fun _ => Nat → DSt → Option DSt) (fun _ s => some s) (fun p _ ih i s => oo (bB P G n call ops nx0 i p.2 p.1 s) none (fun s' => ih (i + 1) s')) l
def lkm (l : List Nat) : Nat := @List.rec Nat (fun _ => Nat) 0 (fun t _ ih => Nat.lor (Nat.pow 2 t) ih) l
def RJ (d1 d2 : Option Nat) (k1 k2 : Nat) (ord : Bool) : Bool :=
 match d1, d2 with
 | some a, some b => bo (Nat.beq a b) false (bo ord true (bo (tb k2 a) false (bo (tb k1 b) false true)))
 | some a, none => bo ord true (bo (tb k2 a) false true)
 | none, some b => bo ord true (bo (tb k1 b) false true)
 | none, none => true
def kO (prev : List (Nat × Option Nat × Nat)) (m k : Nat) (d : Option Nat) : Bool := prev.all (fun p => RJ p.2.1 d p.2.2 k (tb m p.1))
def TG (l : List (Oper × Nat)) : Nat → List (Nat × Option Nat × Nat) → Bool :=
 @List.rec (Oper × Nat) (fun _ => Nat → List (Nat × Option Nat × Nat) → Bool) (fun _ _ => true) (fun p _ ih i prev =>
  bo (p.1.after.toList.all (fun ed => !Region.binds .any ed || Nat.blt ed.on i)) (bo (kO prev p.2 (lkm (p.1.looksAt ops)) p.1.dst) (ih (i + 1) ((i, p.1.dst, lkm (p.1.looksAt ops)) :: prev)) false) false) l
def pG (e : Tb Value) (h : Hp) (nx : Nat) : Out :=
 bo (TG ops (ops.toList.zip (G4 ops.toList [])) 0 []) (oo (dGo P G n call ops nx (ops.toList.zip (G4 ops.toList [])) 0 ⟨e, [], ⟨h, nx + ops.toList.length, 0, none⟩, [], [], [], undef, 3⟩) .bad (fun s => .nrm s.e (OV nx s.F s.cur) s.cur.nx)) .bad
end
end
section
theorem Tr.frame {G : Nat} {σ σ' : Sg} {D hs h' : Hf} {nx nx' : Nat} {w w' : World} (t : Tr G σ D nx w σ' h' nx' w') (m : MR G σ hs nx w) (hD : ∀ id B, D id = some B → hs id = some B) :
 Tr G σ hs nx w σ' (fun id => if (h' id).isSome = true then h' id else if (D id).isSome = true then none else hs id) nx' w' := by
 have hDs : ∀ id, (D id).isSome = true → (hs id).isSome = true := fun id hd => by
  obtain ⟨B, hB⟩ := Option.isSome_iff_exists.1 hd
  rw [hD id B hB]; rfl
 have rest : ∀ id B, ¬ (h' id).isSome = true → (if (D id).isSome = true then none else hs id) = some B → (D id).isSome = false ∧ hs id = some B := fun id B _ hb => by
  cases hq : (D id).isSome with
  | true => rw [hq, if_pos rfl] at hb; cases hb
  | false => rw [hq, if_neg (by simp)] at hb; exact ⟨rfl, hb⟩
 have apart : ∀ id L L2 B, (D id).isSome = false → hs id = some B → σ id = some L → ∀ id2, (D id2).isSome = true → σ id2 = some L2 → L2.blk ≠ L.blk := fun id L L2 B h1 h2 h3 id2 h4 h5 h6 => by
  have := m.sep id2 id L2 L (hDs id2 h4) (by rw [h2]; rfl) h5 h3 h6
  rw [this, h1] at h4; cases h4
 have keepb : ∀ id L B, (D id).isSome = false → hs id = some B → σ id = some L → BR σ L w B → w'.heap[L.blk]? = w.heap[L.blk]? := fun id L B h1 h2 h3 h4 =>
  t.fr L.blk h4.lt (fun id2 L2 h5 h6 => apart id L L2 B h1 h2 h3 id2 h5 h6)
 have cross : ∀ id id' L L', (h' id).isSome = true → (D id').isSome = false → (hs id').isSome = true → σ' id = some L → σ' id' = some L' → L.blk ≠ L'.blk := fun id id' L L' h1 h2 h3 h4 h5 h6 => by
  obtain ⟨B, hB⟩ := Option.isSome_iff_exists.1 h3
  obtain ⟨L1, h7, h8⟩ := m.blk id' B hB
  have := t.ext id' L1 h7
  rw [h5] at this; injection this with this; subst this
  rcases t.src id L h1 h4 with h9 | ⟨id0, L0, h9, h10, h11⟩
  ·have := h8.lt; omega
  ·exact apart id' L' L0 B h2 hB h7 id0 h9 h10 (h11.trans h6)
 refine ⟨t.le, t.ext, t.old, ⟨fun id B hb => ?_, fun id id' L L' h1 h2 h3 h4 h5 => ?_, t.mr.free, t.mr.glob, t.mr.gle⟩, t.os, t.tape, t.output, t.size, fun r hr hn => t.fr r hr (fun id L h1 h2 => hn id L (hDs id h1) h2), fun id L hi hs' => ?_, fun id hi hn => ?_, fun r hr hq => ?_⟩
 ·by_cases hc : (h' id).isSome = true
  ·rw [if_pos hc] at hb; exact t.mr.blk id B hb
  ·rw [if_neg hc] at hb
   obtain ⟨h1, h2⟩ := rest id B hc hb
   obtain ⟨L, h3, h4⟩ := m.blk id B h2
   exact ⟨L, t.ext id L h3, h4.keep t.ext (keepb id L B h1 h2 h3 h4)⟩
 ·by_cases hc : (h' id).isSome = true <;> by_cases hc' : (h' id').isSome = true
  ·exact t.mr.sep id id' L L' hc hc' h3 h4 h5
  ·rw [if_neg hc'] at h2
   obtain ⟨B, hB⟩ := Option.isSome_iff_exists.1 h2
   obtain ⟨h6, h7⟩ := rest id' B hc' hB
   exact absurd h5 (cross id id' L L' hc h6 (by rw [h7]; rfl) h3 h4)
  ·rw [if_neg hc] at h1
   obtain ⟨B, hB⟩ := Option.isSome_iff_exists.1 h1
   obtain ⟨h6, h7⟩ := rest id B hc hB
   exact absurd h5.symm (cross id' id L' L hc' h6 (by rw [h7]; rfl) h4 h3)
  ·rw [if_neg hc] at h1; rw [if_neg hc'] at h2
   obtain ⟨B, hB⟩ := Option.isSome_iff_exists.1 h1
   obtain ⟨h6, h7⟩ := rest id B hc hB
   obtain ⟨B', hB'⟩ := Option.isSome_iff_exists.1 h2
   obtain ⟨h8, h9⟩ := rest id' B' hc' hB'
   obtain ⟨L1, g1, g2⟩ := m.blk id B h7
   obtain ⟨L2, g3, g4⟩ := m.blk id' B' h9
   have e1 := t.ext id L1 g1; rw [h3] at e1; injection e1 with e1; subst e1
   have e2 := t.ext id' L2 g3; rw [h4] at e2; injection e2 with e2; subst e2
   exact m.sep id id' L L' (by rw [h7]; rfl) (by rw [h9]; rfl) g1 g3 h5
 ·by_cases hc : (h' id).isSome = true
  ·rcases t.src id L hc hs' with h9 | ⟨id0, L0, h9, h10, h11⟩
   ·exact .inl h9
   ·exact .inr ⟨id0, L0, hDs id0 h9, h10, h11⟩
  ·rw [if_neg hc] at hi
   obtain ⟨B, hB⟩ := Option.isSome_iff_exists.1 hi
   obtain ⟨h6, h7⟩ := rest id B hc hB
   obtain ⟨L1, g1, g2⟩ := m.blk id B h7
   have e1 := t.ext id L1 g1; rw [hs'] at e1; injection e1 with e1; subst e1
   exact .inr ⟨id, L, by rw [h7]; rfl, g1, rfl⟩
 ·have hd : D id = none := by
   cases hq : D id with
   | none => rfl
   | some B => rw [hD id B hq] at hn; cases hn
  rw [t.dom id hi hd]
  simp [hd, hn]
 ·obtain ⟨g1, g2⟩ := t.qt r hr (fun id L B h1 h2 h3 => hq id L B (hD id B h1) h2 h3)
  refine ⟨g1, fun id L B (h1 : (if (h' id).isSome = true then h' id else if (D id).isSome = true then none else hs id) = some B) h2 h3 => ?_⟩
  by_cases hc : (h' id).isSome = true
  ·rw [if_pos hc] at h1; exact g2 id L B h1 h2 h3
  ·rw [if_neg hc] at h1
   obtain ⟨h6, h7⟩ := rest id B hc h1
   obtain ⟨L1, g3, g4⟩ := m.blk id B h7
   have e1 := t.ext id L1 g3; rw [h2] at e1; injection e1 with e1; subst e1
   exact hq id L B h7 g3 h3
theorem Tr.fresh {G : Nat} {σ0 σ : Sg} {h0 hs : Hf} {nx0 nx : Nat} {w0 w w' : World} (t : Tr G σ0 h0 nx0 w0 σ hs nx w) {k : Nat} (hk : σ k = none) (h1 : nx0 ≤ k) (h2 : k < nx) (L : Loc) (B : Bl) (hL : L.blk = w.heap.size)
 (hrest : w'.os = w.os ∧ w'.tape = w.tape ∧ w'.output = w.output) (hsize : w'.heap.size = w.heap.size + 1) (hold : ∀ r, r < w.heap.size → w'.heap[r]? = w.heap[r]?) (hbr : ∀ σ' : Sg, σ.le σ' → σ' k = some L → BR σ' L w' B) :
 Tr G σ0 h0 nx0 w0 (fun i => if i = k then some L else σ i) (fun i => if i = k then some B else hs i) nx w' := by
 have hle : σ.le (fun i => if i = k then some L else σ i) := fun i L' hi => by
  by_cases e : i = k
  ·subst e; rw [hk] at hi; cases hi
  ·simp only [if_neg e]; exact hi
 have hlt : ∀ i B' L', hs i = some B' → σ i = some L' → L'.blk < w.heap.size := fun i B' L' h1 h2 => by
  obtain ⟨L1, h3, h4⟩ := t.mr.blk i B' h1
  rw [h2] at h3; injection h3 with h3; subst h3
  exact h4.lt
 have hG : G ≤ nx0 ∨ True := .inr trivial
 refine ⟨t.le, t.ext.trans hle, fun i hi => by rw [if_neg (by omega)]; exact t.old i hi, ⟨fun i B' hi => ?_, fun i i' L1 L2 h3 h4 h5 h6 h7 => ?_, fun i hi => ?_, fun g hg => ?_, t.mr.gle⟩, hrest.1.trans t.os, hrest.2.1.trans t.tape, hrest.2.2.trans t.output, by have := t.size; omega, fun r hr hn => ?_, fun i L' hi hs' => ?_, fun i hi hn => ?_, fun r hr hq => ?_⟩
 ·by_cases e : i = k
  ·rw [if_pos e] at hi; injection hi with hi; subst hi
   exact ⟨L, by rw [if_pos e], hbr _ hle (by rw [if_pos rfl])⟩
  ·rw [if_neg e] at hi
   obtain ⟨L1, h3, h4⟩ := t.mr.blk i B' hi
   exact ⟨L1, by rw [if_neg e]; exact h3, h4.keep hle (hold _ h4.lt)⟩
 ·by_cases e : i = k <;> by_cases e' : i' = k
  ·rw [e, e']
  ·rw [if_pos e] at h5; injection h5 with h5; subst h5
   rw [if_neg e'] at h6 h4
   obtain ⟨B2, hB2⟩ := Option.isSome_iff_exists.1 h4
   have := hlt i' B2 L2 hB2 h6
   omega
  ·rw [if_pos e'] at h6; injection h6 with h6; subst h6
   rw [if_neg e] at h5 h3
   obtain ⟨B1, hB1⟩ := Option.isSome_iff_exists.1 h3
   have := hlt i B1 L1 hB1 h5
   omega
  ·rw [if_neg e] at h5 h3; rw [if_neg e'] at h6 h4
   exact t.mr.sep i i' L1 L2 h3 h4 h5 h6 h7
 ·rw [if_neg (by omega)]; exact t.mr.free i hi
 ·obtain ⟨x, hx⟩ := t.mr.glob g hg
  by_cases e : g = k
  ·subst e; rw [hk] at hx; cases hx
  ·exact ⟨x, by rw [if_neg e]; exact hx⟩
 ·rw [hold r (by have := t.size; omega)]; exact t.fr r hr hn
 ·by_cases e : i = k
  ·rw [if_pos e] at hs'; injection hs' with hs'; subst hs'
   exact .inl (by have := t.size; omega)
  ·rw [if_neg e] at hi hs'
   exact t.src i L' hi hs'
 ·rw [if_neg (by omega)]; exact t.dom i hi hn
 ·obtain ⟨g1, g2⟩ := t.qt r hr hq
  have hw := t.size
  refine ⟨(hold r (by omega)).trans g1, fun i L1 B1 (h1 : (if i = k then some B else hs i) = some B1) (h2 : (if i = k then some L else σ i) = some L1) h3 => ?_⟩
  by_cases e : i = k
  ·rw [if_pos e] at h2; injection h2 with h2; subst h2; omega
  ·rw [if_neg e] at h1 h2; exact g2 i L1 B1 h1 h2 h3
section
variable {P : Program} {G n : Nat} {call : CallF} {ops : Array Oper} {nx0 : Nat}
theorem okn {v v1 : Value} {h h' : Hp} {nx nx' : Nat} (hm : OR.ok v1 h nx = OR.ok v h' nx') : h' = h ∧ nx' = nx := by
 obtain ⟨_, h3, h4⟩ := BF hm
 exact ⟨h3.symm, h4.symm⟩
theorem okb {v v1 : Value} {h h' : Hp} {nx nx' : Nat} {b : Bool} (hm : bo b (OR.ok v1 h nx) OR.bad = OR.ok v h' nx') : h' = h ∧ nx' = nx := by
 obtain ⟨_, hm⟩ := BE hm (by simp)
 exact okn hm
theorem sX {v v1 v2 : Value} {h h' : Hp} {nx nx' : Nat} {b c : Bool} (hm : bo b (bo c (OR.ok v1 h nx) (OR.ok v2 h nx)) OR.bad = OR.ok v h' nx') : h' = h ∧ nx' = nx := by
 obtain ⟨_, hm⟩ := BE hm (by simp)
 cases c with
 | true => exact okn hm
 | false => exact okn hm
theorem tW {v v1 v2 : Value} {h h' : Hp} {nx nx' id off z s l u : Nat} {b c : Bool} (hm : bo b (bo c (OR.ok v1 h nx) (OR.ok v2 h nx)) (MN h nx id off z s l u) = OR.ok v h' nx') : h' = h ∧ nx' = nx := by
 cases b with
 | true => exact sX (b := true) hm
 | false =>
  rw [BV] at hm
  unfold MN at hm
  split at hm
  ·exact okb hm
  ·cases hm
theorem okz {v : Value} {h' : Hp} {nx' : Nat} {b : Bool} (hm : bo b OR.bad OR.bad = OR.ok v h' nx') : False := by
 cases b <;> cases hm
theorem qV {α : Type} {x : Option α} {f : α → Value} {v : Value} {h h' : Hp} {nx nx' : Nat} (hm : oo x OR.bad (fun a => OR.ok (f a) h nx) = OR.ok v h' nx') : h' = h ∧ nx' = nx := by
 obtain ⟨a, _, hm⟩ := D9 hm (by simp)
 exact okn hm
theorem gG {o : Oper} {e : Tb Value} {h h' : Hp} {nx nx' : Nat} {v : Value} (hk : L7 P o.op = 0) (hm : mOp P G call e h nx o = .ok v h' nx') : h' = h ∧ nx' = nx := by
 have flatn : DW P G e h nx o = .ok v h' nx' → h' = h ∧ nx' = nx := fun hm => by
  obtain ⟨h1, hm⟩ := BE hm (by simp)
  split at hm
  ·obtain ⟨h2, hm⟩ := BE hm (by simp)
   obtain ⟨_, h3, h4⟩ := BF hm; exact ⟨h3.symm, h4.symm⟩
  ·cases hm
 rw [NN] at hm
 unfold sOp at hm
 cases ho : o.op <;> rw [ho] at hm hk <;> try (simp only [L7] at hk; done)
 case move x => exact qV (x := evO G e x) (f := fun v => v) hm
 case assign x => exact qV (x := evO G e x) (f := fun v => v) hm
 case pick c x y =>
  have hm : SZ h nx (evO G e c) (evO G e x) (evO G e y) = .ok v h' nx' := hm
  unfold SZ at hm; split at hm
  ·obtain ⟨_, h3, h4⟩ := BF hm; exact ⟨h3.symm, h4.symm⟩
  ·cases hm
 case build t ps =>
  have hm : NS P h nx t (evP G e ps.toList) = .ok v h' nx' := hm
  unfold NS at hm
  repeat' split at hm
  all_goals first | exact okn hm | exact okb hm | exact (okz hm).elim | cases hm
 case load t x =>
  have hm : J5 P h nx t (evO G e x) = .ok v h' nx' := hm
  unfold J5 at hm
  repeat' split at hm
  all_goals first | exact okn hm | exact okb hm | exact (okz hm).elim | cases hm
 case nilCheck x =>
  have hm : W5 h nx (evO G e x) = .ok v h' nx' := hm
  unfold W5 at hm
  repeat' split at hm
  all_goals first | exact okn hm | exact okb hm | exact (okz hm).elim | cases hm
 case binOp op t x y t' =>
  obtain ⟨a, ha, hm⟩ := D9 (show oo (evO G e x) OR.bad (fun a => oo (evO G e y) OR.bad (fun b => Z5 a b P G e h nx o op t)) = OR.ok v h' nx' from hm) (by simp)
  obtain ⟨b, hb, hm⟩ := D9 hm (by simp)
  have any : O7 a b P G e h nx o op t = .ok v h' nx' → h' = h ∧ nx' = nx := fun hm => by
   unfold O7 at hm
   split at hm
   ·cases hq : OT P t a b with
    | none => rw [hq] at hm; exact flatn hm
    | some r => rw [hq] at hm; obtain ⟨_, h3, h4⟩ := BF hm; exact ⟨h3.symm, h4.symm⟩
   ·cases hq : OT P t a b with
    | none => rw [hq] at hm; exact flatn hm
    | some r => rw [hq] at hm; obtain ⟨_, h3, h4⟩ := BF hm; exact ⟨h3.symm, h4.symm⟩
   ·exact flatn hm
  cases a with
  | int k m =>
   cases b with
   | int k' m' =>
    have hm : bo (Nat.beq (ikn k) (ikn k')) (oo (L4 op k m m') (oo (P4 op k m m') (DW P G e h nx o) (fun v => .ok v h nx)) (fun v => .ok v h nx)) (oo (P4 op k m m') (DW P G e h nx o) (fun v => .ok v h nx)) = .ok v h' nx' := hm
    have sh : oo (P4 op k m m') (DW P G e h nx o) (fun v => .ok v h nx) = .ok v h' nx' → h' = h ∧ nx' = nx := fun hm => by
     cases hi : P4 op k m m' with
     | none => rw [hi] at hm; exact flatn hm
     | some r => rw [hi] at hm; obtain ⟨_, h3, h4⟩ := BF hm; exact ⟨h3.symm, h4.symm⟩
    cases hq : Nat.beq (ikn k) (ikn k') with
    | false => rw [hq] at hm; exact sh hm
    | true =>
     rw [hq, CG] at hm
     cases hi : L4 op k m m' with
     | none => rw [hi] at hm; exact sh hm
     | some r => rw [hi] at hm; obtain ⟨_, h3, h4⟩ := BF hm; exact ⟨h3.symm, h4.symm⟩
   | _ => exact flatn hm
  | string s =>
   cases b with
   | string s' =>
    exact qV (x := VK op s.data.toList s'.data.toList) (f := fun v => v) hm
   | _ => cases hm
  | _ => exact any hm
 case unOp => exact flatn hm
 case convert s d x =>
  have hm : KA P G e h nx o s d (evO G e x) = .ok v h' nx' := hm
  unfold KA at hm
  repeat' split at hm
  all_goals first | exact flatn hm | exact okn hm | exact okb hm | (cases hm; done) | skip
  ·rename_i h1 _ h2 h3 _ h4; simp only [L7] at hk; rw [h2, h3] at hk; cases hk
 case sliceToArrayPointer t x =>
  have hm : dO P h nx t (evO G e x) = .ok v h' nx' := hm
  unfold dO at hm
  repeat' split at hm
  all_goals first | exact okn hm | exact okb hm | exact (okz hm).elim | cases hm
 case makeInterface t x =>
  have hm : NP P h nx t (evO G e x) = .ok v h' nx' := hm
  unfold NP at hm
  repeat' split at hm
  all_goals first | exact okn hm | exact okb hm | exact (okz hm).elim | cases hm
 case makeFunc f xs ys =>
  have hm : T0 h nx f (evL G e xs.toList) (evL G e ys.toList) = .ok v h' nx' := hm
  unfold T0 at hm
  repeat' split at hm
  all_goals first | exact okn hm | exact okb hm | exact (okz hm).elim | cases hm
 case slice t x lo hi mx =>
  have hm : NL P h nx t (evO G e x) (lo.map (evO G e)) (hi.map (evO G e)) (mx.map (evO G e)) = .ok v h' nx' := hm
  unfold NL at hm
  repeat' split at hm
  all_goals first | exact okn hm | exact okb hm | exact sX hm | exact tW hm | exact (okz hm).elim | cases hm
 case fieldAddr s x f =>
  have hm : EV P h nx s f (evO G e x) = .ok v h' nx' := hm
  unfold EV at hm
  repeat' split at hm
  all_goals first | exact okn hm | exact okb hm | exact (okz hm).elim | cases hm
 case field s x f =>
  have hm : K9 P h nx s f (evO G e x) = .ok v h' nx' := hm
  unfold K9 at hm
  repeat' split at hm
  all_goals first | exact okn hm | exact okb hm | exact (okz hm).elim | cases hm
 case indexAddr t x i =>
  have hm : E7 P h nx t (evO G e x) (evO G e i) = .ok v h' nx' := hm
  unfold E7 at hm
  repeat' split at hm
  all_goals first | exact okn hm | exact okb hm | exact (okz hm).elim | cases hm
 case index t x i =>
  have hm : NO P h nx t (evO G e x) (evO G e i) = .ok v h' nx' := hm
  unfold NO at hm
  repeat' split at hm
  all_goals first | exact okn hm | exact okb hm | exact (okz hm).elim | cases hm
 case lookup t x i ok =>
  have hm : KL P h nx t ok (evO G e x) (evO G e i) = .ok v h' nx' := hm
  unfold KL at hm
  repeat' split at hm
  all_goals first | exact okn hm | exact okb hm | exact (okz hm).elim | cases hm
 case entry x =>
  have hm : NQ h nx (evO G e x) = .ok v h' nx' := hm
  unfold NQ at hm
  repeat' split at hm
  all_goals first | exact okb hm | exact (okz hm).elim | cases hm
 case extract x i =>
  have hm : HA h nx i (evO G e x) = .ok v h' nx' := hm
  unfold HA at hm
  repeat' split at hm
  all_goals first | exact okn hm | exact okb hm | exact (okz hm).elim | cases hm
 case call c =>
  obtain ⟨callee, args, ts⟩ := c
  cases callee with
  | value f => cases hk
  | invoke r m => cases hk
  | builtin b =>
   have hm : E5 P G e h nx o b args.toList ts.toList = .ok v h' nx' := hm
   unfold E5 at hm
   split at hm
   ·unfold YE at hm
    repeat' split at hm
    all_goals first | exact okn hm | exact okb hm | exact (okz hm).elim | cases hm
   ·cases hk
   ·cases hk
   ·cases hk
   ·exact flatn hm
   ·exact flatn hm
   ·cases hm
 all_goals first | cases hm | cases hk
end
end
section
section
variable {P : Program} {G n : Nat} {call : CallF} {ops : Array Oper} {nx0 : Nat}
structure StepI (P : Program) (G n : Nat) (call : CallF) (ops : Array Oper) (nx0 i m : Nat) (o : Oper) (s s' : DSt) : Prop where
 put : QP n s.e o.dst s'.v = some s'.e
 kinds : s'.kd = 0 ∨ s'.kd = 1 ∨ s'.kd = 2 ∨ s'.kd = 3
 off : s'.kd = 3 → s'.v = undef ∧ ∃ g, o.guard = some g ∧ GL ops s.e g = some false
 on : s'.kd ≠ 3 → o.guard = none ∨ ∃ g, o.guard = some g ∧ GL ops s.e g = some true
 stay : s'.kd ≠ 2 → s'.cur = s.cur ∧ s'.old = s.old ∧ s'.ld = s.ld
 fr : s'.kd ≠ 1 → s'.F = s.F
 still : s'.kd = 0 → L7 P o.op = 0 ∧ (∃ h1 n1, mOp P G call s.e (dH nx0 m s.F s.cur) s.cur.nx o = .ok s'.v h1 n1) ∧ bE P G call nx0 m o s.e s.F s'.v s.old s.cur = true ∧ s'.lv = ⟨i, m, o, s.e, s.F, s'.v⟩ :: s.lv
 fresh : s'.kd = 1 → L7 P o.op = 1 ∧ ∃ h' n' B, mOp P G call s.e .lf (nx0 + i) o = .ok s'.v h' n' ∧ h'.get (nx0 + i) = some B ∧ s'.F = (i, B) :: s.F
 lvs : s'.kd = 1 ∨ s'.kd = 3 → s'.lv = s.lv
 loud : s'.kd = 2 → mOp P G call s.e (dH nx0 m s.F s.cur) s.cur.nx o = .ok s'.v s'.cur.h s'.cur.nx ∧ s'.cur.mt = Nat.lor s.cur.mt m ∧ s'.cur.lo = some i ∧ s'.old = s.cur :: s.old ∧ (∀ b ∈ s.ld, tb m b = true) ∧
  (∀ l ∈ s.lv, tb m l.i = true ∨ eP P G call nx0 l.m l.o l.e l.F l.v s'.cur = true) ∧ s'.lv = s.lv.filter (fun l => !tb m l.i) ∧ s'.ld = i :: s.ld
theorem eO {i m : Nat} {o : Oper} {s s' : DSt} (h : bB P G n call ops nx0 i m o s = some s') : StepI P G n call ops nx0 i m o s s' := by
 have gd : ∀ b, YW ops s.e o = some b → (b = false → ∃ g, o.guard = some g ∧ GL ops s.e g = some false) ∧ (b = true → o.guard = none ∨ ∃ g, o.guard = some g ∧ GL ops s.e g = some true) := fun b hb => by
  unfold YW at hb
  cases hg : o.guard with
  | none => rw [hg, U5] at hb; injection hb with hb; subst hb; exact ⟨fun h => by (cases h), fun _ => .inl rfl⟩
  | some g =>
   rw [hg, HU] at hb
   cases b with
   | true => exact ⟨fun h => by (cases h), fun _ => .inr ⟨g, rfl, hb⟩⟩
   | false => exact ⟨fun _ => ⟨g, rfl, hb⟩, fun h => by (cases h)⟩
 unfold bB at h
 split at h
 ·rename_i hb
  obtain ⟨e', hp, h⟩ := D9 h (by simp)
  injection h with h; subst h
  exact ⟨hp, by simp, fun _ => ⟨rfl, (gd _ hb).1 rfl⟩, fun hh => absurd rfl hh, fun _ => ⟨rfl, rfl, rfl⟩, fun _ => rfl, fun hh => by (cases hh), fun hh => by (cases hh), fun _ => rfl, fun hh => by (cases hh)⟩
 ·rename_i hb
  have hon := (gd _ hb).2 rfl
  split at h
  ·rename_i hk
   unfold kN at h
   split at h
   ·rename_i v h1 n1 hm
    obtain ⟨hback, h⟩ := BE h (by simp)
    obtain ⟨e', hp, h⟩ := D9 h (by simp)
    injection h with h; subst h
    exact ⟨hp, by simp, fun hh => by (cases hh), fun _ => hon, fun _ => ⟨rfl, rfl, rfl⟩, fun _ => rfl, fun _ => ⟨hk, ⟨h1, n1, hm⟩, hback, rfl⟩, fun hh => by (cases hh), fun hh => by (rcases hh with hh | hh <;> cases hh), fun hh => by (cases hh)⟩
   ·cases h
  ·rename_i hk
   unfold kP at h
   split at h
   ·rename_i v h1 n1 hm
    obtain ⟨B, hB, h⟩ := D9 h (by simp)
    obtain ⟨e', hp, h⟩ := D9 h (by simp)
    injection h with h; subst h
    exact ⟨hp, by simp, fun hh => by (cases hh), fun _ => hon, fun _ => ⟨rfl, rfl, rfl⟩, fun hh => absurd rfl hh, fun hh => by (cases hh), fun _ => ⟨hk, h1, n1, B, hm, hB, rfl⟩, fun _ => rfl, fun hh => by (cases hh)⟩
   ·cases h
  ·unfold pK at h
   split at h
   ·rename_i v h1 n1 hm
    obtain ⟨hc, h⟩ := BE h (by simp)
    obtain ⟨e', hp, h⟩ := D9 h (by simp)
    injection h with h; subst h
    simp only [Bool.and_eq_true] at hc
    exact ⟨hp, by simp, fun hh => by (cases hh), fun _ => hon, fun hh => absurd rfl hh, fun _ => rfl, fun hh => by (cases hh), fun hh => by (cases hh), fun hh => by (rcases hh with hh | hh <;> cases hh),
     fun _ => ⟨hm, rfl, rfl, rfl, fun b hb => List.all_eq_true.1 hc.1 b hb, fun l hl => by simpa using List.all_eq_true.1 hc.2 l hl, rfl, rfl⟩⟩
   ·cases h
 ·cases h
theorem bC : ∀ (l : List (Oper × Nat)) (i : Nat) {s sN : DSt}, dGo P G n call ops nx0 l i s = some sN → ∃ st : Nat → DSt, st 0 = s ∧ st l.length = sN ∧ ∀ j o m, l[j]? = some (o, m) → StepI P G n call ops nx0 (i + j) m o (st j) (st (j + 1))
 | [], i, s, sN, h => by
  injection h with h; subst h
  exact ⟨fun _ => s, rfl, rfl, fun j o m hj => by simp at hj⟩
 | p :: l, i, s, sN, h => by
  obtain ⟨s', h1, h2⟩ := D9 (show oo (bB P G n call ops nx0 i p.2 p.1 s) none (fun s' => dGo P G n call ops nx0 l (i + 1) s') = some sN from h) (by simp)
  obtain ⟨st, h3, h4, h5⟩ := bC l (i + 1) h2
  refine ⟨fun j => match j with | 0 => s | j + 1 => st j, rfl, h4, fun j o m hj => ?_⟩
  cases j with
  | zero =>
   simp only [List.getElem?_cons_zero, Option.some.injEq] at hj
   subst hj
   show StepI P G n call ops nx0 i m o s (st 0)
   rw [h3]
   exact eO h1
  | succ j =>
   rw [List.getElem?_cons_succ] at hj
   have := h5 j o m hj
   rw [show i + (j + 1) = i + 1 + j by omega]
   exact this
theorem aN {t : Nat} : ∀ {l : List Nat}, t ∈ l → tb (lkm l) t = true
 | [], h => by cases h
 | x :: l, h => by
  show tb (Nat.lor (Nat.pow 2 x) (lkm l)) t = true
  rw [TW, fX, Bool.or_eq_true, decide_eq_true_eq]
  rcases List.mem_cons.1 h with h | h
  ·exact .inl h.symm
  ·exact .inr (aN h)
theorem eQ {d1 d2 : Option Nat} {l1 l2 : List Nat} {ord : Bool} (h : RJ d1 d2 (lkm l1) (lkm l2) ord = true) : (∀ d, d1 = some d → d2 ≠ some d) ∧ (ord = true ∨ (∀ d, d1 = some d → d ∉ l2) ∧ (∀ d, d2 = some d → d ∉ l1)) := by
 have nm : ∀ (l : List Nat) t, tb (lkm l) t = false → t ∉ l := fun l t ht hm => by rw [aN hm] at ht; cases ht
 unfold RJ at h
 split at h
 ·rename_i a b
  cases hab : Nat.beq a b with
  | true => rw [hab] at h; cases h
  | false =>
   rw [hab, BV] at h
   have hne : a ≠ b := fun e => by subst e; simp at hab
   refine ⟨fun d hd hd2 => hne (by injection hd with hd; injection hd2 with hd2; rw [hd, hd2]), ?_⟩
   cases ord with
   | true => exact .inl rfl
   | false =>
    rw [BV] at h
    cases h1 : tb (lkm l2) a with
    | true => rw [h1] at h; cases h
    | false =>
     rw [h1, BV] at h
     cases h2 : tb (lkm l1) b with
     | true => rw [h2] at h; cases h
     | false => exact .inr ⟨fun d hd => by injection hd with hd; subst hd; exact nm _ _ h1, fun d hd => by injection hd with hd; subst hd; exact nm _ _ h2⟩
 ·rename_i a
  refine ⟨fun d _ hd2 => by (cases hd2), ?_⟩
  cases ord with
  | true => exact .inl rfl
  | false =>
   rw [BV] at h
   cases h1 : tb (lkm l2) a with
   | true => rw [h1] at h; cases h
   | false => exact .inr ⟨fun d hd => by injection hd with hd; subst hd; exact nm _ _ h1, fun d hd => by (cases hd)⟩
 ·rename_i b
  refine ⟨fun d hd _ => by (cases hd), ?_⟩
  cases ord with
  | true => exact .inl rfl
  | false =>
   rw [BV] at h
   cases h2 : tb (lkm l1) b with
   | true => rw [h2] at h; cases h
   | false => exact .inr ⟨fun d hd => by (cases hd), fun d hd => by injection hd with hd; subst hd; exact nm _ _ h2⟩
 ·exact ⟨fun d hd _ => by (cases hd), .inr ⟨fun d hd => by (cases hd), fun d hd => by (cases hd)⟩⟩
theorem TF : ∀ (l : List (Oper × Nat)) (i : Nat) (prev : List (Nat × Option Nat × Nat)), TG ops l i prev = true →
 (∀ j o m, l[j]? = some (o, m) → (∀ ed ∈ o.after, Region.binds .any ed = true → ed.on < i + j) ∧ (∀ p ∈ prev, RJ p.2.1 o.dst p.2.2 (lkm (o.looksAt ops)) (tb m p.1) = true)) ∧
 ∀ j k oj mj ok mk, j < k → l[j]? = some (oj, mj) → l[k]? = some (ok, mk) → RJ oj.dst ok.dst (lkm (oj.looksAt ops)) (lkm (ok.looksAt ops)) (tb mk (i + j)) = true
 | [], i, prev, _ => ⟨fun j o m hj => by simp at hj, fun j k oj mj ok mk _ hj => by simp at hj⟩
 | p :: l, i, prev, h => by
  obtain ⟨h1, h⟩ := BE (show bo (p.1.after.toList.all (fun ed => !Region.binds .any ed || Nat.blt ed.on i)) (bo (kO prev p.2 (lkm (p.1.looksAt ops)) p.1.dst) (TG ops l (i + 1) ((i, p.1.dst, lkm (p.1.looksAt ops)) :: prev)) false) false = true from h) (by simp)
  obtain ⟨h2, h⟩ := BE h (by simp)
  obtain ⟨h3, h4⟩ := TF l (i + 1) _ h
  refine ⟨fun j o m hj => ?_, fun j k oj mj ok mk hjk hj hk => ?_⟩
  ·cases j with
   | zero =>
    simp only [List.getElem?_cons_zero, Option.some.injEq] at hj
    subst hj
    refine ⟨fun ed hed hb => ?_, fun q hq => List.all_eq_true.1 h2 q hq⟩
    have := List.all_eq_true.1 h1 ed (by simpa using hed)
    rw [hb] at this
    simpa using AZ (by simpa using this)
   | succ j =>
    rw [List.getElem?_cons_succ] at hj
    obtain ⟨h5, h6⟩ := h3 j o m hj
    exact ⟨fun ed hed hb => by have := h5 ed hed hb; omega, fun q hq => h6 q (by simp [hq])⟩
  ·cases k with
   | zero => omega
   | succ k =>
    rw [List.getElem?_cons_succ] at hk
    cases j with
    | zero =>
     simp only [List.getElem?_cons_zero, Option.some.injEq] at hj
     subst hj
     exact (h3 k ok mk hk).2 (i, oj.dst, lkm (oj.looksAt ops)) (by simp)
    | succ j =>
     rw [List.getElem?_cons_succ] at hj
     have := h4 j k oj mj ok mk (by omega) hj hk
     rw [show i + (j + 1) = i + 1 + j by omega]
     exact this
structure Pl (P : Program) (G n : Nat) (call : CallF) (ops : Array Oper) (nx0 : Nat) (ms : Nat → Nat) (st : Nat → DSt) : Prop where
 step : ∀ i o, ops[i]? = some o → StepI P G n call ops nx0 i (ms i) o (st i) (st (i + 1))
 back : ∀ i o, ops[i]? = some o → ∀ ed ∈ o.after, Region.binds .any ed = true → ed.on < i
 pair : ∀ i j oi oj, i < j → ops[i]? = some oi → ops[j]? = some oj → (∀ d, oi.dst = some d → oj.dst ≠ some d) ∧ (tb (ms j) i = true ∨ (∀ d, oi.dst = some d → d ∉ oj.looksAt ops) ∧ (∀ d, oj.dst = some d → d ∉ oi.looksAt ops))
 clos : ∀ i o j, ops[i]? = some o → tb (ms i) j = true → ∃ ed ∈ o.after, Region.binds .any ed = true ∧ (ed.on = j ∨ tb (ms ed.on) j = true)
 lo0 : (st 0).cur.lo = none
 F0 : (st 0).F = []
 ld0 : (st 0).ld = []
 lv0 : (st 0).lv = []
variable {ms : Nat → Nat} {st : Nat → DSt}
theorem sT {e0 : Tb Value} {h0 : Hp} {sN : DSt} (h1 : TG ops (ops.toList.zip (G4 ops.toList [])) 0 [] = true) (h2 : dGo P G n call ops nx0 (ops.toList.zip (G4 ops.toList [])) 0 ⟨e0, [], ⟨h0, nx0 + ops.toList.length, 0, none⟩, [], [], [], undef, 3⟩ = some sN) :
 ∃ ms st, Pl P G n call ops nx0 ms st ∧ st 0 = ⟨e0, [], ⟨h0, nx0 + ops.toList.length, 0, none⟩, [], [], [], undef, 3⟩ ∧ st ops.size = sN := by
 have mlen : ∀ (l : List Oper) (acc : List Nat), (G4 l acc).length = acc.length + l.length := fun l => by
  induction l with
  | nil => intro acc; rfl
  | cons o l ih => intro acc; rw [IB, ih]; simp; omega
 obtain ⟨st, h3, h4, h5⟩ := bC _ 0 h2
 obtain ⟨h6, h7⟩ := TF _ 0 [] h1
 have hlen : (ops.toList.zip (G4 ops.toList [])).length = ops.size := by
  rw [List.length_zip, mlen]; simp
 have hget : ∀ i o, ops[i]? = some o → (ops.toList.zip (G4 ops.toList []))[i]? = some (o, ((G4 ops.toList [])[i]?).getD 0) := fun i o ho => by
  have hi := (Array.getElem?_eq_some_iff.1 ho).1
  have hm : i < (G4 ops.toList []).length := by rw [mlen]; simpa using hi
  rw [List.getElem?_zip_eq_some]
  exact ⟨by simpa using ho, by rw [List.getElem?_eq_getElem hm]; rfl⟩
 rw [hlen] at h4
 refine ⟨fun i => ((G4 ops.toList [])[i]?).getD 0, st, ⟨fun i o ho => ?_, fun i o ho ed hed hb => ?_, fun i j oi oj hij hi hj => ?_, fun i o j ho ht => ?_, by rw [h3], by rw [h3], by rw [h3], by rw [h3]⟩, h3, h4⟩
 ·have := h5 i o _ (hget i o ho)
  rwa [Nat.zero_add] at this
 ·have := (h6 i o _ (hget i o ho)).1 ed hed hb
  omega
 ·have := h7 i j oi _ oj _ hij (hget i oi hi) (hget j oj hj)
  rw [Nat.zero_add] at this
  exact eQ this
 ·obtain ⟨acc', ha, hm⟩ := SY ops.toList [] i o (by simpa using ho)
  simp only [List.length_nil, Nat.zero_add] at ha hm
  rw [hm, Option.getD_some] at ht
  obtain ⟨ed, h8, h9, h10⟩ := NJ ht
  refine ⟨ed, by simpa using h8, h9, ?_⟩
  rcases h10 with h10 | ⟨m, h10, h11⟩
  ·exact .inl h10
  ·right
   rw [ha] at h10
   split at h10
   ·rw [h10]; exact h11
   ·cases h10
def Ls (listed : Array Bool) (i : Nat) : Prop := listed.getD i false = true
def V3 (ops : Array Oper) (S : Nat → Prop) : Prop := ∀ j o, ops[j]? = some o → S j → ∀ ed ∈ o.after, Region.binds .any ed = true → S ed.on
theorem Pl.before (pl : Pl P G n call ops nx0 ms st) {S : Nat → Prop} (hc : V3 ops S) : ∀ (i : Nat) (o : Oper), ops[i]? = some o → (∀ ed ∈ o.after, Region.binds .any ed = true → S ed.on) → ∀ j, tb (ms i) j = true → S j := by
 intro i
 induction i using Nat.strongRecOn with
 | _ i ih =>
  intro o ho hp j hj
  obtain ⟨ed, h1, h2, h3⟩ := pl.clos i o j ho hj
  have hS := hp ed h1 h2
  rcases h3 with h3 | h3
  ·rw [← h3]; exact hS
  ·have hlt := pl.back i o ho ed h1 h2
   have hlt2 : ed.on < ops.size := by have := (Array.getElem?_eq_some_iff.1 ho).1; omega
   exact ih ed.on hlt _ (Array.getElem?_eq_getElem hlt2) (fun ed2 h4 h5 => hc ed.on _ (Array.getElem?_eq_getElem hlt2) hS ed2 h4 h5) j h3
theorem Pl.env (pl : Pl P G n call ops nx0 ms st) (t : Nat) : ∀ i, i ≤ ops.size → (∃ j oj, j < i ∧ ops[j]? = some oj ∧ oj.dst = some t ∧ (st i).e.get t = some (st (j + 1)).v) ∨ ((∀ j oj, j < i → ops[j]? = some oj → oj.dst ≠ some t) ∧ (st i).e.get t = (st 0).e.get t)
 | 0, _ => .inr ⟨fun j oj hj => by omega, rfl⟩
 | i + 1, hi => by
  have ho := Array.getElem?_eq_getElem (show i < ops.size by omega)
  have hp := (pl.step i _ ho).put
  have hi' := pl.env t i (by omega)
  cases hd : (ops[i]'(by omega)).dst with
  | none =>
   rw [hd] at hp
   injection hp with hp
   rw [← hp]
   rcases hi' with ⟨j, oj, h1, h2, h3, h4⟩ | ⟨h1, h2⟩
   ·exact .inl ⟨j, oj, by omega, h2, h3, h4⟩
   ·refine .inr ⟨fun j oj hj hoj => ?_, h2⟩
    by_cases e : j = i
    ·subst e; rw [ho] at hoj; injection hoj with hoj; rw [← hoj, hd]; simp
    ·exact h1 j oj (by omega) hoj
  | some d =>
   rw [hd] at hp
   rw [NM] at hp
   obtain ⟨_, hp⟩ := BE hp (by simp)
   injection hp with hp
   rw [← hp, Tb.get_put]
   by_cases e : t = d
   ·subst e
    exact .inl ⟨i, _, by omega, ho, hd, by rw [if_pos rfl]⟩
   ·rw [if_neg e]
    rcases hi' with ⟨j, oj, h1, h2, h3, h4⟩ | ⟨h1, h2⟩
    ·exact .inl ⟨j, oj, by omega, h2, h3, h4⟩
    ·refine .inr ⟨fun j oj hj hoj => ?_, h2⟩
     by_cases e2 : j = i
     ·subst e2; rw [ho] at hoj; injection hoj with hoj; rw [← hoj, hd]; intro h; injection h with h; exact e h.symm
     ·exact h1 j oj (by omega) hoj
theorem Pl.cur (pl : Pl P G n call ops nx0 ms st) {c : Nat} : ∀ i, c ≤ i → i ≤ ops.size → (∀ e, c ≤ e → e < i → (st (e + 1)).kd ≠ 2) → (st i).cur = (st c).cur := by
 intro i
 induction i with
 | zero => intro h _ _; obtain rfl : c = 0 := by omega
           rfl
 | succ i ih =>
  intro h hi hl
  by_cases e : c = i + 1
  ·rw [e]
  ·rw [((pl.step i _ (Array.getElem?_eq_getElem (show i < ops.size by omega))).stay (hl i (by omega) (by omega))).1]
   exact ih (by omega) (by omega) (fun e h1 h2 => hl e h1 (by omega))
theorem Pl.ld (pl : Pl P G n call ops nx0 ms st) {b : Nat} (hk : (st (b + 1)).kd = 2) : ∀ i, b < i → i ≤ ops.size → b ∈ (st i).ld := by
 intro i
 induction i with
 | zero => intro h _; omega
 | succ i ih =>
  intro h hi
  have hs := pl.step i _ (Array.getElem?_eq_getElem (show i < ops.size by omega))
  by_cases e : b = i
  ·subst e
   rw [(hs.loud hk).2.2.2.2.2.2.2]; simp
  ·have := ih (by omega) (by omega)
   by_cases hk2 : (st (i + 1)).kd = 2
   ·rw [(hs.loud hk2).2.2.2.2.2.2.2]; simp [this]
   ·rw [(hs.stay hk2).2.2]; exact this
theorem Pl.chain (pl : Pl P G n call ops nx0 ms st) {b i : Nat} (hb : (st (b + 1)).kd = 2) (hi : (st (i + 1)).kd = 2) (hlt : b < i) (hN : i < ops.size) : tb (ms i) b = true :=
 ((pl.step i _ (Array.getElem?_eq_getElem hN)).loud hi).2.2.2.2.1 b (pl.ld hb i hlt (by omega))
theorem Pl.Fs (pl : Pl P G n call ops nx0 ms st) {j : Nat} {B : Bl} : ∀ i, i ≤ ops.size → (j, B) ∈ (st i).F → j < i ∧ (st (j + 1)).kd = 1 ∧ (st (j + 1)).F.head? = some (j, B) := by
 intro i
 induction i with
 | zero => intro _ h; rw [pl.F0] at h; cases h
 | succ i ih =>
  intro hi h
  have hs := pl.step i _ (Array.getElem?_eq_getElem (show i < ops.size by omega))
  by_cases hk : (st (i + 1)).kd = 1
  ·obtain ⟨_, h', n', B', _, _, hF⟩ := hs.fresh hk
   rw [hF] at h
   rcases List.mem_cons.1 h with h | h
   ·injection h with h1 h2; subst h1; subst h2
    exact ⟨by omega, hk, by rw [hF]; rfl⟩
   ·obtain ⟨h1, h2⟩ := ih (by omega) h
    exact ⟨by omega, h2⟩
  ·rw [hs.fr hk] at h
   obtain ⟨h1, h2⟩ := ih (by omega) h
   exact ⟨by omega, h2⟩
def Ck (P : Program) (G : Nat) (call : CallF) (nx0 : Nat) (ms : Nat → Nat) (st : Nat → DSt) (i : Nat) (o : Oper) (sn : Snap) : Prop := ∃ h1 n1, mOp P G call (st i).e (dH nx0 (ms i) (st i).F sn) sn.nx o = .ok (st (i + 1)).v h1 n1
theorem bD {m : Nat} {o : Oper} {e : Tb Value} {F : List (Nat × Bl)} {v : Value} {sn : Snap} (h : eP P G call nx0 m o e F v sn = true) : ∃ h1 n1, mOp P G call e (dH nx0 m F sn) sn.nx o = .ok v h1 n1 := by
 unfold eP at h
 cases hq : mOp P G call e (dH nx0 m F sn) sn.nx o with
 | bad => rw [hq] at h; cases h
 | ok u h1 n1 =>
  rw [hq] at h
  rw [fK h]
  exact ⟨h1, n1, rfl⟩
theorem Pl.backs (pl : Pl P G n call ops nx0 ms st) {i : Nat} {o : Oper} : ∀ c, c ≤ ops.size → bE P G call nx0 (ms i) o (st i).e (st i).F (st (i + 1)).v (st c).old (st c).cur = true → Ck P G call nx0 ms st i o (st c).cur →
 (∀ b, b < c → (st (b + 1)).kd = 2 → (∀ e, b < e → e < c → (st (e + 1)).kd = 2 → tb (ms i) e = false) → Ck P G call nx0 ms st i o (st (b + 1)).cur) ∧
 ((∀ e, e < c → (st (e + 1)).kd = 2 → tb (ms i) e = false) → Ck P G call nx0 ms st i o (st 0).cur) := by
 intro c
 induction c with
 | zero => intro _ _ hc; exact ⟨fun b hb => by omega, fun _ => hc⟩
 | succ c ih =>
  intro hN hb hc
  have hs := pl.step c _ (Array.getElem?_eq_getElem (show c < ops.size by omega))
  by_cases hk : (st (c + 1)).kd = 2
  ·obtain ⟨_, _, hlo, hold, _⟩ := hs.loud hk
   rw [hold] at hb
   have hb : oo (st (c + 1)).cur.lo true (fun e0 => bo (tb (ms i) e0) true (bo (eP P G call nx0 (ms i) o (st i).e (st i).F (st (i + 1)).v (st c).cur) (bE P G call nx0 (ms i) o (st i).e (st i).F (st (i + 1)).v (st c).old (st c).cur) false)) = true := hb
   rw [hlo, HU] at hb
   cases ht : tb (ms i) c with
   | true =>
    refine ⟨fun b hbc hkb hno => ?_, fun hno => ?_⟩
    ·by_cases e : b = c
     ·subst e; exact hc
     ·have := hno c (by omega) (by omega) hk
      rw [ht] at this; cases this
    ·have := hno c (by omega) hk
     rw [ht] at this; cases this
   | false =>
    rw [ht, BV] at hb
    obtain ⟨h1, h2⟩ := BE hb (by simp)
    obtain ⟨h3, h4⟩ := ih (by omega) h2 (bD h1)
    refine ⟨fun b hbc hkb hno => ?_, fun hno => h4 fun e he => hno e (by omega)⟩
    by_cases e : b = c
    ·subst e; exact hc
    ·exact h3 b (by omega) hkb (fun e h5 h6 => hno e h5 (by omega))
  ·obtain ⟨hcur, hold, _⟩ := hs.stay hk
   rw [hcur, hold] at hb
   rw [hcur] at hc
   obtain ⟨h3, h4⟩ := ih (by omega) hb hc
   refine ⟨fun b hbc hkb hno => ?_, fun hno => h4 fun e he => hno e (by omega)⟩
   by_cases e : b = c
   ·subst e; exact absurd hkb hk
   ·exact h3 b (by omega) hkb (fun e h5 h6 => hno e h5 (by omega))
theorem Pl.lives (pl : Pl P G n call ops nx0 ms st) {i : Nat} {o : Oper} (ho : ops[i]? = some o) (hk : (st (i + 1)).kd = 0) : ∀ c, i < c → c ≤ ops.size →
 ((⟨i, ms i, o, (st i).e, (st i).F, (st (i + 1)).v⟩ : Live) ∈ (st c).lv ∨ ∃ e, i < e ∧ e < c ∧ (st (e + 1)).kd = 2 ∧ tb (ms e) i = true) ∧
 ∀ b, i < b → b < c → (st (b + 1)).kd = 2 → (∀ e, i < e → e ≤ b → (st (e + 1)).kd = 2 → tb (ms e) i = false) → Ck P G call nx0 ms st i o (st (b + 1)).cur := by
 intro c
 induction c with
 | zero => intro h; omega
 | succ c ih =>
  intro hic hN
  have hs := pl.step c _ (Array.getElem?_eq_getElem (show c < ops.size by omega))
  by_cases e : c = i
  ·subst e
   have hs := pl.step c o ho
   exact ⟨.inl (by rw [(hs.still hk).2.2.2]; simp), fun b h1 h2 => by omega⟩
  ·obtain ⟨h1, h2⟩ := ih (by omega) (by omega)
   by_cases hk2 : (st (c + 1)).kd = 2
   ·obtain ⟨_, _, _, _, _, hchk, hlv, _⟩ := hs.loud hk2
    refine ⟨?_, fun b h3 h4 h5 h6 => ?_⟩
    ·rcases h1 with h1 | ⟨e, h1⟩
     ·cases ht : tb (ms c) i with
      | true => exact .inr ⟨c, by omega, by omega, hk2, ht⟩
      | false => left; rw [hlv, List.mem_filter]; exact ⟨h1, by simp [ht]⟩
     ·exact .inr ⟨e, h1.1, by omega, h1.2.2⟩
    ·by_cases eb : b = c
     ·subst eb
      rcases h1 with h1 | ⟨e, h7, h8, h9, h10⟩
      ·rcases hchk _ h1 with h11 | h11
       ·have := h6 b (by omega) (Nat.le_refl _) hk2
        rw [this] at h11; cases h11
       ·exact bD h11
      ·have := h6 e h7 (by omega) h9
       rw [this] at h10; cases h10
     ·exact h2 b h3 (by omega) h5 h6
   ·have hlv : (st c).lv ⊆ (st (c + 1)).lv := by
     rcases hs.kinds with h3 | h3 | h3 | h3
     ·rw [(hs.still h3).2.2.2]; exact fun x hx => by simp [hx]
     ·rw [hs.lvs (.inl h3)]; exact fun x hx => hx
     ·exact absurd h3 hk2
     ·rw [hs.lvs (.inr h3)]; exact fun x hx => hx
    refine ⟨?_, fun b h3 h4 h5 h6 => ?_⟩
    ·rcases h1 with h1 | ⟨e, h1⟩
     ·exact .inl (hlv h1)
     ·exact .inr ⟨e, h1.1, by omega, h1.2.2⟩
    ·by_cases eb : b = c
     ·subst eb; exact absurd h5 hk2
     ·exact h2 b h3 (by omega) h5 h6
def O9 (ops : Array Oper) (st : Nat → DSt) (S : Nat → Prop) (sn : Snap) : Prop := (sn = (st 0).cur ∧ ∀ b, b < ops.size → S b → (st (b + 1)).kd ≠ 2) ∨ ∃ b, b < ops.size ∧ S b ∧ (st (b + 1)).kd = 2 ∧ sn = (st (b + 1)).cur ∧ ∀ b', b' < ops.size → S b' → (st (b' + 1)).kd = 2 → b' ≤ b
theorem Pl.check (pl : Pl P G n call ops nx0 ms st) {S : Nat → Prop} (hc : V3 ops S) {i : Nat} {o : Oper} (ho : ops[i]? = some o) (hk : (st (i + 1)).kd = 0) (hS : ¬ S i) (hpre : ∀ ed ∈ o.after, Region.binds .any ed = true → S ed.on) {sn : Snap} (hsn : O9 ops st S sn) : Ck P G call nx0 ms st i o sn := by
 have hiN := (Array.getElem?_eq_some_iff.1 ho).1
 have hbef := pl.before hc i o ho hpre
 have hs := pl.step i o ho
 obtain ⟨_, hcan, hback, _⟩ := hs.still hk
 have hb := pl.backs i (by omega) hback hcan
 have nb : ∀ e, ¬ S e → tb (ms i) e = false := fun e he => by
  cases ht : tb (ms i) e with
  | false => rfl
  | true => exact absurd (hbef e ht) he
 rcases hsn with ⟨rfl, hno⟩ | ⟨b, hbN, hSb, hkb, rfl, hmax⟩
 ·exact hb.2 fun e he hke => nb e fun hh => hno e (by omega) hh hke
 ·have hne : b ≠ i := fun e => by subst e; exact hS hSb
  by_cases hlt : b < i
  ·exact hb.1 b hlt hkb fun e h1 h2 h3 => nb e fun hh => by have := hmax e (by omega) hh h3; omega
  ·refine (pl.lives ho hk ops.size hiN (Nat.le_refl _)).2 b (by omega) hbN hkb fun e h1 h2 h3 => ?_
   have hSe : S e := by
    by_cases e2 : e = b
    ·rw [e2]; exact hSb
    ·exact pl.before hc b _ (Array.getElem?_eq_getElem hbN) (hc b _ (Array.getElem?_eq_getElem hbN) hSb) e (pl.chain h3 hkb (by omega) hbN)
   cases ht : tb (ms e) i with
   | false => rfl
   | true => exact absurd (pl.before hc e _ (Array.getElem?_eq_getElem (show e < ops.size by omega)) (hc e _ (Array.getElem?_eq_getElem (show e < ops.size by omega)) hSe) i ht) hS
end
end
end
end Go.Proofs.YtadgfojhjnkliaaGreatDoor
