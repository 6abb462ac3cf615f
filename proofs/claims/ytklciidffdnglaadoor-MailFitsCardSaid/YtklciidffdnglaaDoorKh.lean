/- The machine that runs closed code: structs and slices are built, texts and bytes are turned, lengths. Over any program. No condition. -/
import Derived.Test.YtklciidffdnglaaDoorKg
import Derived.Test.YtklciidffdnglaaDoorSxBuild
import Derived.Laws.BytesString
import Derived.Laws.MakeOwn
namespace Go.Proofs.YtklciidffdnglaaDoor
open Go.RowKit

section
variable {P : Program} {G : Nat} {o : Oper} {e : Tb Value} {h h' : Hp} {nx nx' : Nat} {v : Value}
theorem VRs.put {σ : Sg} {cs us xs ys : List Value} (off : Nat) (hc : VRs σ cs us) (hx : VRs σ xs ys) : VRs σ (Go.Proofs.YtklciidffdnglaaDoor.put cs off xs) (Go.Proofs.YtklciidffdnglaaDoor.put us off ys) := by
  unfold Go.Proofs.YtklciidffdnglaaDoor.put
  rw [hx.len]
  exact (hc.take off).append (hx.append (hc.drop (off + ys.length)))
theorem fillL_ok {σ : Sg} {place : Nat → Option (Nat × Nat)} : ∀ {ps qs : List (Nat × Value)} {cs cs' us : List Value}, fillL place cs ps = some cs' → VRs σ cs us → ps.map (·.1) = qs.map (·.1) → VRs σ (ps.map (·.2)) (qs.map (·.2)) →
    ∃ us', Instr.fill place us.toArray qs = some us'.toArray ∧ VRs σ cs' us'
  | [], qs, cs, cs', us, hf, hc, h1, h2 => by
    injection hf with hf; subst hf
    obtain rfl : qs = [] := by cases qs <;> simp_all
    exact ⟨us, rfl, hc⟩
  | (i, v) :: ps, [], cs, cs', us, hf, hc, h1, h2 => by cases h1
  | (i, v) :: ps, (j, u) :: qs, cs, cs', us, hf, hc, h1, h2 => by
    simp only [List.map_cons, List.cons.injEq] at h1 h2
    obtain ⟨rfl, h1⟩ := h1
    obtain ⟨y, vs', h3, h4, h5⟩ := h2.inv
    injection h3 with h3 h6; subst h3; subst h6
    unfold fillL at hf
    split at hf
    · cases hf
    · rename_i off size hp
      obtain ⟨hb, hf⟩ := bo_inv hf (by simp)
      simp only [Bool.and_eq_true] at hb
      have hsz := Nat.eq_of_beq_eq_true hb.1
      have hle := Nat.le_of_ble_eq_true hb.2
      have hcl := h4.cells.len
      rw [fill_cons place us i off u u.cells.toList qs (by simp) (by rw [hp, ← hsz, hcl]) (by rw [← hcl, ← hc.len]; exact hle)]
      exact fillL_ok hf (hc.put off h4.cells) h1 h5
theorem placesL_ok : ∀ {fs : List Field} {pl : List (Nat × Nat)}, placesL P fs = some pl → fs.mapM (fun f => (P.info? f.type).map fun i => (f.offset, i.size)) = some pl
  | [], pl, hp => by injection hp with hp; subst hp; rfl
  | f :: r, pl, hp => by
    unfold placesL at hp
    split at hp
    · rename_i i l hi hl
      injection hp with hp; subst hp
      simp [List.mapM_cons, hi, placesL_ok hl]
    · cases hp
theorem parts_eq {ρ : Operand → Value} {ps : Array (Nat × Operand)} : (ps.map fun (i, x) => (i, ρ x)).toList = ps.toList.map fun p => (p.1, ρ p.2) := by simp
theorem build_good {t : TypeId} {ps : Array (Nat × Operand)} (ho : o.op = .build t ps) (hm : mBuild P h nx t (evP G e ps.toList) = .ok v h' nx') : Good P G o e h nx v h' nx' := by
  unfold mBuild at hm
  split at hm
  · rename_i qs hq
    have key : ∀ z cs (place : Nat → Option (Nat × Nat)), zeroTy P t = some z → fillL place z.cells.toList qs = some cs → (∀ ws, Instr.fill place z.cells ws = P.built t ws) → .ok (.agg ⟨cs⟩) h nx = OR.ok v h' nx' → Good P G o e h nx v h' nx' := by
      intro z cs place hz hf hb hm
      obtain ⟨rfl, rfl, rfl⟩ := ok_inj hm
      refine good_pure fun σ w ρ oe m => ?_
      obtain ⟨h1, h2⟩ := oe.parts hq
      obtain ⟨i, hi, hiz, hfl⟩ := zeroTy_info hz
      have e1 : (ps.toList.map fun p => (p.1, ρ p.2)).map (·.1) = ps.toList.map (·.1) := by rw [List.map_map]; rfl
      have e2 : (ps.toList.map fun p => (p.1, ρ p.2)).map (·.2) = ps.toList.map fun p => ρ p.2 := by rw [List.map_map]; rfl
      obtain ⟨us', h3, h4⟩ := fillL_ok (σ := σ) (qs := ps.toList.map fun p => (p.1, ρ p.2)) hf ((VR.of_flat (σ := σ) hfl).cells) (by rw [e1]; exact h1) (by rw [e2]; exact h2)
      refine ⟨.agg ⟨us'⟩, .agg h4 .nil, ?_⟩
      have hz2 : z.cells.toList.toArray = z.cells := by simp
      rw [hz2, hb] at h3
      have hr := run_build (P := P) w t (ps.map fun (i, x) => (i, ρ x)) us'.toArray (by rw [parts_eq]; exact h3)
      unfold execOp
      simp only [ho, Sem.run_bind, hr, Result.andThen_ok]
      rfl
    split at hm
    · rename_i z fs hz hu
      split at hm
      · rename_i pl hp
        split at hm
        · rename_i cs hf
          obtain ⟨i, hi, hiz, _⟩ := zeroTy_info hz
          refine key z cs _ hz hf (fun ws => ?_) hm
          unfold Program.built
          simp only [hi, hu, hiz, placesL_ok hp]
          congr 1; funext j; simp
        · cases hm
      · cases hm
    · rename_i z n el hz hu
      split at hm
      · rename_i s hs
        split at hm
        · rename_i cs hf
          obtain ⟨i, hi, hiz, _⟩ := zeroTy_info hz
          obtain ⟨j, hj, hjs⟩ := sizeTy_info hs
          subst hjs
          refine key z cs _ hz hf (fun ws => ?_) hm
          unfold Program.built
          simp only [hi, hu, hiz, hj]
        · cases hm
      · cases hm
    · cases hm
  · cases hm
theorem zerosN_succ (l : List Value) (n : Nat) : zerosN l (n + 1) = l ++ zerosN l n := rfl
theorem zerosN_length (l : List Value) : ∀ n, (zerosN l n).length = n * l.length
  | 0 => by rw [Nat.zero_mul]; rfl
  | n + 1 => by rw [zerosN_succ, List.length_append, zerosN_length l n, Nat.add_mul]; omega
theorem zerosN_get (l : List Value) (hl : 0 < l.length) : ∀ (n i : Nat), i < n * l.length → (zerosN l n)[i]? = l[i % l.length]?
  | 0, i, hi => by omega
  | n + 1, i, hi => by
    rw [zerosN_succ]
    rw [Nat.add_mul] at hi
    by_cases h1 : i < l.length
    · rw [List.getElem?_append_left h1, Nat.mod_eq_of_lt h1]
    · rw [List.getElem?_append_right (by omega), zerosN_get l hl n _ (by omega)]
      congr 1
      rw [← Nat.sub_add_cancel (Nat.le_of_not_lt h1), Nat.add_mod_right, Nat.add_sub_cancel]
theorem made_eq (z : Array Value) (n : Nat) (hz : 0 < z.size) : (Array.range (n * z.size)).map (z[· % z.size]!) = (zerosN z.toList n).toArray := by
  apply Array.ext_getElem?
  intro i
  have hl : 0 < z.toList.length := by simpa using hz
  by_cases hi : i < n * z.size
  · have hm : i % z.size < z.size := Nat.mod_lt _ hz
    have e1 : (zerosN z.toList n).toArray[i]? = (zerosN z.toList n)[i]? := by simp
    rw [e1, zerosN_get z.toList hl n i (by simpa using hi)]
    simp [hi, hm]
  · have e1 : (zerosN z.toList n).toArray[i]? = (zerosN z.toList n)[i]? := by simp
    rw [Array.getElem?_eq_none (by simp; omega), e1, List.getElem?_eq_none (by rw [zerosN_length]; simp; omega)]
theorem VRs.zeros {σ : Sg} {l us : List Value} (hv : VRs σ l us) : ∀ n, VRs σ (zerosN l n) (zerosN us n)
  | 0 => .nil
  | n + 1 => by rw [zerosN_succ, zerosN_succ]; exact hv.append (hv.zeros n)
theorem buildSlice_good {t : TypeId} {len : Nat} {ps : Array (Nat × Operand)} (ho : o.op = .buildSlice t len ps) (hm : mBuildSlice P h nx t len (evP G e ps.toList) = .ok v h' nx') : Good P G o e h nx v h' nx' := by
  unfold mBuildSlice at hm
  split at hm
  · rename_i qs hq
    split at hm
    · rename_i el s ht
      split at hm
      · rename_i z hz
        obtain ⟨hc, hm⟩ := bo_inv hm (by simp)
        simp only [Bool.and_eq_true] at hc
        have hzs := Nat.eq_of_beq_eq_true hc.1
        have hpos := blt_lt hc.2.1
        have hsm := Nat.le_of_ble_eq_true hc.2.2
        split at hm
        · rename_i cs hf
          obtain ⟨rfl, rfl, rfl⟩ := newB_inv hm
          obtain ⟨hu, ie, hie, hies⟩ := slEl ht
          obtain ⟨i, hi, hiz, hfl⟩ := zeroTy_info hz
          rw [hie] at hi; injection hi with hi; subst hi
          subst hies
          intro σ w ρ oe m
          obtain ⟨h1, h2⟩ := oe.parts hq
          have e1 : (ps.toList.map fun p => (p.1, ρ p.2)).map (·.1) = ps.toList.map (·.1) := by rw [List.map_map]; rfl
          have e2 : (ps.toList.map fun p => (p.1, ρ p.2)).map (·.2) = ps.toList.map fun p => ρ p.2 := by rw [List.map_map]; rfl
          obtain ⟨us', h3, h4⟩ := fillL_ok (σ := σ) (qs := ps.toList.map fun p => (p.1, ρ p.2)) hf (((VR.of_flat (σ := σ) hfl).cells).zeros len) (by rw [e1]; exact h1) (by rw [e2]; exact h2)
          obtain ⟨σ', h5, h6, h7⟩ := m.newRow el (Tb.of cs) h4 (fun i => Tb.get_of _ i)
          have hzs' : z.cells.size = ie.size := by simpa using hzs
          by_cases h0 : len = 0
          · subst h0
            refine ⟨.slice (some ⟨w.heap.size, 0, none⟩) 0 0, _, .inl ?_, σ', .sl (L := ⟨w.heap.size, 0, _⟩) h5 .nil, h7⟩
            have e3 : Instr.fill (fun i => some (i * ie.size, ie.size)) #[] (ps.toList.map fun p => (p.1, ρ p.2)) = some us'.toArray := h3
            unfold execOp
            simp only [ho, Instr.buildSlice, Sem.run_bind, run_underlying hu, Result.andThen_ok, sizeOf, typeInfo]
            simp [hie, e3, newRow, show Array.range 0 = #[] from rfl]
          · have hr := run_buildSlice (P := P) w t el len (ps.map fun (i, x) => (i, ρ x)) us'.toArray ie z hu hie hiz (by omega) (Nat.ne_of_gt (Nat.mul_pos (Nat.pos_of_ne_zero h0) hpos)) (by
              rw [parts_eq, ← hzs', made_eq _ _ (by omega), hzs']; exact h3)
            refine ⟨.slice (some ⟨w.heap.size, 0, none⟩) len len, _, .inl ?_, σ', .sl (L := ⟨w.heap.size, 0, _⟩) h5 .nil, h7⟩
            unfold execOp
            simp only [ho, Sem.run_bind, hr, Result.andThen_ok]
            rfl
        · cases hm
      · cases hm
    · cases hm
  · cases hm
theorem makeSlice_good {t : TypeId} {l c : Operand} (ho : o.op = .makeSlice t l c) (hm : mMakeSlice P h nx t (evO G e l) (evO G e c) = .ok v h' nx') : Good P G o e h nx v h' nx' := by
  unfold mMakeSlice at hm
  split at hm
  · rename_i n k h1 h2
    split at hm
    · rename_i el s ht
      split at hm
      · rename_i z i hz hi
        obtain ⟨hc, hm⟩ := bo_inv hm (by simp)
        simp only [Bool.and_eq_true] at hc
        have hzs := Nat.eq_of_beq_eq_true hc.1
        have hpos := blt_lt hc.2.1
        have hnk := Nat.le_of_ble_eq_true hc.2.2.1
        have hsm := Nat.le_of_ble_eq_true hc.2.2.2.1
        have hby := Nat.le_of_ble_eq_true hc.2.2.2.2
        obtain ⟨rfl, rfl, rfl⟩ := newB_inv hm
        obtain ⟨hu, ie, hie, hies⟩ := slEl ht
        rw [hi] at hie; injection hie with hie; subst hie
        subst hies
        obtain ⟨i', hi', hiz, hfl⟩ := zeroTy_info hz
        rw [hi] at hi'; injection hi' with hi'; subst hi'
        intro σ w ρ oe m
        have hzs' : z.cells.size = i.size := by simpa using hzs
        have hlen : (zerosN z.cells.toList k).length = k * i.size := by rw [zerosN_length]; simp [hzs']
        obtain ⟨σ', h5, h6, h7⟩ := m.newRow el (match z.cells.toList with | [v] => Tb.repN v k k | l => Tb.of (zerosN l k)) (((VR.of_flat (σ := σ) hfl).cells).zeros k) (fun j => by
          split
          · rename_i x hx
            rw [Tb.get_repN, hx]
            have : ∀ n, zerosN [x] n = List.replicate n x := fun n => by
              induction n with
              | zero => rfl
              | succ n ih => rw [zerosN_succ, ih]; rfl
            rw [this]
          · rw [Tb.get_of])
        rw [hlen] at h7
        have hbytes : (i.bytes : Int) * (k : Int) ≤ 281474976710656 := by
          have : i.bytes * k ≤ 16777216 * 16777216 := Nat.mul_le_mul hby hsm
          have h9 : ((i.bytes * k : Nat) : Int) ≤ ((16777216 * 16777216 : Nat) : Int) := Int.ofNat_le.2 this
          simpa using h9
        have hrun := run_make (P := P) w t el i z hu hi hiz .i64 .i64 (n : Int) (k : Int) (by omega) (by omega) hbytes (by omega)
        have hmade : madeCells z.cells ((k : Int).toNat * i.size) = (zerosN z.cells.toList k).toArray := by
          rw [← hzs']; exact made_eq z.cells k (by omega)
        rw [hmade] at hrun
        refine ⟨.slice (some ⟨w.heap.size, 0, none⟩) n k, _, .inl ?_, σ', .sl (L := ⟨w.heap.size, 0, _⟩) h5 .nil, h7⟩
        have hl := (oe l _ h1).scal_inv rfl
        have hcc := (oe c _ h2).scal_inv rfl
        unfold execOp
        simp only [ho, hl, hcc, Sem.run_bind]
        have e1 : Int.ofNat n = (n : Int) := rfl
        have e2 : Int.ofNat k = (k : Int) := rfl
        rw [e1, e2, hrun]
        rfl
      · cases hm
    · cases hm
  · cases hm
end
end Go.Proofs.YtklciidffdnglaaDoor
