/- The machine that runs closed code: an entry of a map, read behind a step of a range, or changed in place. Over any program. No condition. -/
import Derived.Test.YtklciidffdnglaaDoorKj
namespace Go.Proofs.YtklciidffdnglaaDoor
open Go.RowKit

section
variable {P : Program} {G : Nat} {o : Oper} {e : Tb Value} {h h' : Hp} {nx nx' : Nat} {v : Value}
theorem findB_ok {σ : Sg} {b : Nat} {k x : Value} : ∀ {bs : List Nat} {l : List (Value × Value)} {es : List MapEntry}, findB b bs l = some (k, x) → VRs σ (l.map (·.1)) (es.map (·.key)) → VRs σ (l.map (·.2)) (es.map (·.val)) → es.map (·.born) = bs →
    ∃ en, es.find? (fun e => e.born == b) = some en ∧ VR σ k en.key ∧ VR σ x en.val
  | [], _, _, hf, _, _, _ => by simp [findB] at hf
  | _ :: _, [], _, hf, _, _, _ => by simp [findB] at hf
  | _ :: _, _ :: _, [], _, _, _, h3 => by cases h3
  | c :: bs, p :: l, en :: es, hf, h1, h2, h3 => by
    simp only [List.map_cons, List.cons.injEq] at h3
    obtain ⟨y, ys, e1, h4, h5⟩ := h1.inv
    injection e1 with e1 e2; subst e1; subst e2
    obtain ⟨z, zs, e1, h6, h7⟩ := h2.inv
    injection e1 with e1 e2; subst e1; subst e2
    unfold findB at hf
    cases hc : Nat.beq c b with
    | true =>
      rw [hc, bo_true] at hf; injection hf with hf
      have := Nat.eq_of_beq_eq_true hc
      refine ⟨en, by simp [h3.1, this], ?_, ?_⟩
      · rw [show k = p.1 by rw [hf]]; exact h4
      · rw [show x = p.2 by rw [hf]]; exact h6
    | false =>
      rw [hc, bo_false] at hf
      obtain ⟨en', h8, h9, h10⟩ := findB_ok hf h5 h7 h3.2
      refine ⟨en', ?_, h9, h10⟩
      have : ¬ en.born = b := fun hh => by rw [h3.1] at hh; subst hh; simp at hc
      simp [this, h8]
theorem entry_good {x : Operand} (ho : o.op = .entry x) (hm : mEntry h nx (evO G e x) = .ok v h' nx') : Good P G o e h nx v h' nx' := by
  unfold mEntry at hm
  split at hm
  · rename_i id h1
    split at hm
    · rename_i mid since seen last hb
      split at hm
      · rename_i cl bs l b hmb hla
        obtain ⟨hcl, hm⟩ := bo_inv hm (by simp)
        have hcl := Nat.eq_of_beq_eq_true hcl
        split at hm
        · rename_i kk vv hf
          obtain ⟨rfl, rfl, rfl⟩ := ok_inj hm
          refine good_pure fun σ w ρ oe m => ?_
          obtain ⟨L, hL, hx⟩ := (oe x _ h1).ptr_inv
          obtain ⟨L', hL', hb0, r, hr, _, hbk⟩ := m.blk id _ hb
          rw [hL] at hL'; injection hL' with hL'; subst hL'
          obtain ⟨L2, hL2, rfl⟩ := hr mid rfl
          obtain ⟨L3, hL3, es, hbk2, k1, k2, k3⟩ := m.blk mid _ hmb
          rw [hL2] at hL3; injection hL3 with hL3; subst hL3
          obtain ⟨en, h4, h5, h6⟩ := findB_ok hf k1 k2 k3
          rw [hb0] at hx
          have h4' : es.find? (fun e => e.born == b) = some en := by rw [← Array.find?_toList]; exact h4
          have hlast : (⟨seen⟩ : Array Nat).back? = some b := by simpa using hla
          refine ⟨.tuple #[en.key, en.val], .tuple (xs := [_, _]) (ys := [_, _]) (.cons h5 h6) .nil, ?_⟩
          unfold execOp
          simp only [ho, hx, Instr.entry, getObj, Sem.run_bind, Sem.run, hbk, hbk2, Result.andThen_ok, hlast, hcl, h4', bne_self_eq_false, Bool.false_eq_true, if_false]
          rfl
        · cases hm
      · cases hm
    · cases hm
  · cases hm
theorem mapEntry_good {t : TypeId} {mp k : Operand} (ho : o.op = .mapEntry t mp k) (hm : mMapEntry P h nx t (evO G e mp) (evO G e k) = .ok v h' nx') : Good P G o e h nx v h' nx' := by
  unfold mMapEntry at hm
  simp only [putS_eq, listS_eq, natS_eq] at hm
  split at hm
  · rename_i id kv h1 h2
    split at hm
    · rename_i el clock bs l hkt hb
      obtain ⟨kt, d, hu, hd, hsc, hck⟩ := keyTy_ok hkt
      have fin : ∀ (σ : Sg) (w : World) (ρ : Operand → Value) (L : Loc) (es : Array MapEntry) (es' : Array MapEntry) (clock' : Nat) (bs' : List Nat) (l' : List (Value × Value)) (a u : Value) (b : Nat), MR G σ h.get nx w → σ id = some L → w.heap[L.blk]? = some (.map es clock) → VR σ a u →
          (Instr.mapEntry t (.map (some L.blk)) kv).run P w = .ok (.tuple #[u, goInt b]) { w with heap := w.heap.setIfInBounds L.blk (.map es' clock') } → ρ mp = .map (some L.blk) → ρ k = kv → VRs σ (l'.map (·.1)) (es'.toList.map (·.key)) → VRs σ (l'.map (·.2)) (es'.toList.map (·.val)) → es'.toList.map (·.born) = bs' →
          Does P ρ o w fun x w' => ∃ σ', VR σ' (.tuple ⟨[a, .int .i64 (.ofNat b)]⟩) x ∧ Tr G σ h.get nx w σ' (h.put id (.map clock' bs' l')).get nx w' := by
        intro σ w ρ L es es' clock' bs' l' a u b m hL hbk hau hrun hmp hkv hk1 hk2 hk3
        refine ⟨.tuple #[u, goInt b], { w with heap := w.heap.setIfInBounds L.blk (.map es' clock') }, .inl ?_, σ, .tuple (xs := [_, _]) (ys := [_, _]) (.cons hau VR.int) .nil, ?_⟩
        · unfold execOp
          simp only [ho, hmp, hkv, Sem.run_bind, hrun, Result.andThen_ok]
          rfl
        · rw [Tb.put_fun]
          have hlt : L.blk < w.heap.size := (Array.getElem?_eq_some_iff.1 hbk).1
          exact m.upd hb hL ⟨es', by simp [hlt], hk1, hk2, hk3⟩ ⟨rfl, rfl, rfl⟩ (by simp) (fun r hr => by simp [Array.getElem?_setIfInBounds_ne (Ne.symm hr)])
      split at hm
      · rename_i j a hf
        split at hm
        · rename_i b hbj
          obtain ⟨rfl, rfl, rfl⟩ := ok_inj hm
          intro σ w ρ oe m
          obtain ⟨L, hL, hmp⟩ := (oe mp _ h1).map_inv
          obtain ⟨L', hL', es, hbk, h4, h5, h5b⟩ := m.blk id _ hb
          rw [hL] at hL'; injection hL' with hL'; subst hL'
          obtain ⟨r', h6, h7⟩ := findL_ok hu hd hkt l es.toList 0 hf h4 h5
          cases r' with
          | none => exact h7.elim
          | some p =>
            obtain ⟨j', u⟩ := p
            obtain ⟨rfl, _, hjl, hv, en, hen, hkey⟩ := h7
            rw [Nat.sub_zero] at hen hjl
            have hkv := (oe k _ h2).scal_inv hsc
            have hfk := run_findKey (P := P) hd h6 w
            have hena : es[j]? = some en := by simpa using hen
            have hold : ((es[j]?).map (·.key)).getD kv = kv := by rw [hena]; exact hkey
            have hborn : (((es[j]?).map fun x => (x.born : Int)).getD 0) = (b : Int) := by
              rw [hena]
              rw [← h5b, List.getElem?_map, hen] at hbj
              have : en.born = b := by simpa using hbj
              simp [this]
            have hsame : (es.modify j fun e => { e with key := kv }) = es := by
              apply Array.ext'
              rw [Array.toList_modify]
              apply List.ext_getElem?
              intro i
              rw [List.getElem?_modify]
              by_cases hij : j = i
              · subst hij
                rw [hen]
                simp only [if_true, Option.map_eq_map, Option.map_some]
                rw [← hkey]
              · simp [hij]
            refine fin σ w ρ L es es clock bs l a u b m hL hbk hv ?_ hmp hkv h4 h5 h5b
            unfold Instr.mapEntry
            simp only [Sem.run_bind, run_underlying hu, Result.andThen_ok, run_getMap hbk, hck, hfk, hold, hborn, Instr.keyThatStays, keyTy_bits 10000 hkt, if_true, Sem.run_pure, hsame]
            unfold setObj
            simp only [Sem.run, hbk, Result.andThen_ok]
        · cases hm
      · rename_i hf
        split at hm
        · rename_i z hz
          obtain ⟨rfl, rfl, rfl⟩ := ok_inj hm
          intro σ w ρ oe m
          obtain ⟨i, hi, hiz, hfl⟩ := zeroTy_info hz
          obtain ⟨L, hL, hmp⟩ := (oe mp _ h1).map_inv
          obtain ⟨L', hL', es, hbk, h4, h5, h5b⟩ := m.blk id _ hb
          rw [hL] at hL'; injection hL' with hL'; subst hL'
          obtain ⟨r', h6, h7⟩ := findL_ok hu hd hkt l es.toList 0 hf h4 h5
          cases r' with
          | some p => exact h7.elim
          | none =>
            have hkv := (oe k _ h2).scal_inv hsc
            refine fin σ w ρ L es (es.push { key := kv, val := z, born := clock }) (clock + 1) (bs ++ [clock]) (l ++ [(kv, z)]) z z clock m hL hbk (VR.of_flat hfl) ?_ hmp hkv ?_ ?_ ?_
            · have hfk := run_findKey (P := P) hd h6 w
              unfold Instr.mapEntry
              have hzr : (zeroValue el).run P w = .ok z w := by simp [zeroValue, typeInfo, hi, hiz]
              simp only [Sem.run_bind, run_underlying hu, Result.andThen_ok, run_getMap hbk, hck, hfk, hzr]
              unfold setObj
              simp only [Sem.run, hbk, Result.andThen_ok]
              rfl
            · rw [List.map_append, Array.toList_push, List.map_append]
              exact h4.append (by have := oe k _ h2; rw [hkv] at this; exact this)
            · rw [List.map_append, Array.toList_push, List.map_append]
              exact h5.append (VR.of_flat hfl)
            · rw [← h5b]; simp
        · cases hm
      · cases hm
    · cases hm
  · cases hm
theorem setV_fst : ∀ (l : List (Value × Value)) (i : Nat) (x : Value), (setV l i x).map (·.1) = l.map (·.1)
  | [], _, _ => rfl
  | p :: l, 0, x => rfl
  | p :: l, i + 1, x => by show p.1 :: (setV l i x).map (·.1) = p.1 :: l.map (·.1); rw [setV_fst l i x]
theorem setV_snd : ∀ (l : List (Value × Value)) (i : Nat) (x : Value), (setV l i x).map (·.2) = (l.map (·.2)).set i x
  | [], _, _ => rfl
  | p :: l, 0, x => rfl
  | p :: l, i + 1, x => by show p.2 :: (setV l i x).map (·.2) = p.2 :: (l.map (·.2)).set i x; rw [setV_snd l i x]
theorem idxB_ok {b : Nat} : ∀ {es : List MapEntry} {i j : Nat}, idxB b (es.map (·.born)) i = some j → ∃ j', j = i + j' ∧ es.findIdx? (fun e => (e.born : Int) == (b : Int)) = some j' ∧ j' < es.length
  | [], i, j, hf => by cases hf
  | en :: es, i, j, hf => by
    have hf : bo (Nat.beq en.born b) (some i) (idxB b (es.map (·.born)) (i + 1)) = some j := hf
    cases hc : Nat.beq en.born b with
    | true =>
      rw [hc, bo_true] at hf; injection hf with hf
      have := Nat.eq_of_beq_eq_true hc
      exact ⟨0, by omega, by simp [List.findIdx?_cons, this], by simp⟩
    | false =>
      rw [hc, bo_false] at hf
      obtain ⟨j', h1, h2, h3⟩ := idxB_ok hf
      have : ¬ (en.born : Int) = (b : Int) := fun hh => by
        have : en.born = b := by omega
        subst this; simp at hc
      exact ⟨j' + 1, by omega, by simp [List.findIdx?_cons, this, h2], by simp; omega⟩
theorem entryStore_good {t : TypeId} {mp s x : Operand} (ho : o.op = .entryStore t mp s x) (hm : mEntryStore h nx (evO G e mp) (evO G e s) (evO G e x) = .ok v h' nx') : Good P G o e h nx v h' nx' := by
  unfold mEntryStore at hm
  simp only [putS_eq, listS_eq] at hm
  split at hm
  · rename_i id ik b xv h1 h2 h3
    split at hm
    · rename_i cl bs l hb
      split at hm
      · rename_i i hi
        obtain ⟨rfl, rfl, rfl⟩ := ok_inj hm
        intro σ w ρ oe m
        obtain ⟨L, hL, hmp⟩ := (oe mp _ h1).map_inv
        obtain ⟨L', hL', es, hbk, h4, h5, h5b⟩ := m.blk id _ hb
        rw [hL] at hL'; injection hL' with hL'; subst hL'
        have hs := (oe s _ h2).scal_inv rfl
        subst h5b
        obtain ⟨j', hj, hfi, hjl⟩ := idxB_ok hi
        obtain rfl : i = j' := by omega
        have hfi' : es.findIdx? (fun e => (e.born : Int) == (b : Int)) = some i := by
          obtain ⟨el⟩ := es
          simpa using hfi
        have hrun : (Instr.entryStore t (.map (some L.blk)) (.int ik (.ofNat b)) (ρ x)).run P w = .ok () { w with heap := w.heap.setIfInBounds L.blk (.map (es.modify i fun e => { e with val := ρ x }) cl) } := by
          have e1 : (Int.ofNat b) = (b : Int) := rfl
          unfold Instr.entryStore
          simp only [Sem.run_bind, Sem.run_pure, Result.andThen_ok, run_getMap hbk, asInt, asIntOf, e1, hfi']
          unfold setObj
          simp only [Sem.run, hbk]
        refine ⟨undef, { w with heap := w.heap.setIfInBounds L.blk (.map (es.modify i fun e => { e with val := ρ x }) cl) }, .inr ⟨?_, rfl⟩, σ, VR.undef, ?_⟩
        · unfold execOp
          simp only [ho, hmp, hs, Sem.run_bind, hrun, Result.andThen_ok]
          rfl
        · rw [Tb.put_fun]
          have hlt : L.blk < w.heap.size := (Array.getElem?_eq_some_iff.1 hbk).1
          have ek : ((es.modify i fun e => { e with val := ρ x }).toList.map (·.key)) = es.toList.map (·.key) := by
            apply List.ext_getElem?
            intro i'
            rw [Array.toList_modify, List.getElem?_map, List.getElem?_modify, List.getElem?_map]
            by_cases hij : i = i'
            · subst hij; cases es.toList[i]? <;> simp
            · simp [hij]
          have ev : ((es.modify i fun e => { e with val := ρ x }).toList.map (·.val)) = (es.toList.map (·.val)).set i (ρ x) := by
            apply List.ext_getElem?
            intro i'
            rw [Array.toList_modify, List.getElem?_map, List.getElem?_modify, List.getElem?_set, List.getElem?_map]
            by_cases hij : i = i'
            · subst hij
              rw [List.getElem?_eq_getElem hjl]
              simp
              simpa using hjl
            · simp [hij]
          have eb : ((es.modify i fun e => { e with val := ρ x }).toList.map (·.born)) = es.toList.map (·.born) := by
            apply List.ext_getElem?
            intro i'
            rw [Array.toList_modify, List.getElem?_map, List.getElem?_modify, List.getElem?_map]
            by_cases hij : i = i'
            · subst hij; cases es.toList[i]? <;> simp
            · simp [hij]
          refine m.upd hb hL ⟨es.modify i fun e => { e with val := ρ x }, by simp [hlt], ?_, ?_, eb⟩ ⟨rfl, rfl, rfl⟩ (by simp) (fun r hr => by simp [Array.getElem?_setIfInBounds_ne (Ne.symm hr)])
          · rw [setV_fst, ek]; exact h4
          · rw [setV_snd, ev]; exact h5.set i (oe x _ h3)
      · cases hm
    · cases hm
  · cases hm
end
end Go.Proofs.YtklciidffdnglaaDoor
