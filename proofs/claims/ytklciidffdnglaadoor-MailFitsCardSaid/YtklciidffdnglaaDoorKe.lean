/- The machine that runs closed code: operations on values, and on memory that is there. Over any program. No condition. -/
import Derived.Test.YtklciidffdnglaaDoorKd
namespace Go.Proofs.YtklciidffdnglaaDoor
open Go.RowKit

/-- The operands stand for the model's. -/
def OE (σ : Sg) (G : Nat) (e : Tb Value) (ρ : Operand → Value) : Prop := ∀ x v, evO G e x = some v → VR σ v (ρ x)
/-- What the machine does at this operation stands for what the model does. -/
def Good (P : Program) (G : Nat) (o : Oper) (e : Tb Value) (h : Hp) (nx : Nat) (v : Value) (h' : Hp) (nx' : Nat) : Prop :=
  ∀ σ w ρ, OE σ G e ρ → MR G σ h.get nx w → Does P ρ o w fun u w' => ∃ σ', VR σ' v u ∧ Tr G σ h.get nx w σ' h'.get nx' w'
theorem OE.list {σ : Sg} {G : Nat} {e : Tb Value} {ρ : Operand → Value} (oe : OE σ G e ρ) : ∀ {l : List Operand} {vs : List Value}, evL G e l = some vs → VRs σ vs (l.map ρ)
  | [], vs, h => by injection h with h; subst h; exact .nil
  | x :: l, vs, h => by
    change oo (evO G e x) none (fun v => oo (evL G e l) none (fun vs => some (v :: vs))) = some vs at h
    obtain ⟨v, hv, h⟩ := oo_inv h (by simp)
    obtain ⟨us, hu, h⟩ := oo_inv h (by simp)
    injection h with h; subst h
    exact .cons (oe x v hv) (oe.list hu)
theorem OE.parts {σ : Sg} {G : Nat} {e : Tb Value} {ρ : Operand → Value} (oe : OE σ G e ρ) : ∀ {l : List (Nat × Operand)} {vs : List (Nat × Value)}, evP G e l = some vs → vs.map (·.1) = l.map (·.1) ∧ VRs σ (vs.map (·.2)) (l.map fun p => ρ p.2)
  | [], vs, h => by injection h with h; subst h; exact ⟨rfl, .nil⟩
  | x :: l, vs, h => by
    change oo (evO G e x.2) none (fun v => oo (evP G e l) none (fun vs => some ((x.1, v) :: vs))) = some vs at h
    obtain ⟨v, hv, h⟩ := oo_inv h (by simp)
    obtain ⟨us, hu, h⟩ := oo_inv h (by simp)
    injection h with h; subst h
    obtain ⟨h1, h2⟩ := oe.parts hu
    exact ⟨by simp [h1], .cons (oe x.2 v hv) h2⟩
theorem ok_inj {v v' : Value} {h h' : Hp} {nx nx' : Nat} (e : OR.ok v h nx = OR.ok v' h' nx') : v = v' ∧ h = h' ∧ nx = nx' := by injection e with a b c; exact ⟨a, b, c⟩

section
variable {P : Program} {G : Nat} {o : Oper} {e : Tb Value} {h h' : Hp} {nx nx' : Nat} {v : Value}
theorem good_pure (hp : ∀ σ w ρ, OE σ G e ρ → MR G σ h.get nx w → ∃ u, VR σ v u ∧ (execOp ρ o).run P w = .ok (.value u) w) : Good P G o e h nx v h nx := fun σ w ρ oe m =>
  let ⟨u, hu, hr⟩ := hp σ w ρ oe m
  ⟨u, w, .inl hr, σ, hu, Tr.refl m⟩
theorem move_good {x : Operand} (ho : o.op = .move x ∨ o.op = .assign x) (hm : mMove h nx (evO G e x) = .ok v h' nx') : Good P G o e h nx v h' nx' := by
  obtain ⟨v', hv, hm⟩ := oo_inv hm (by simp)
  obtain ⟨rfl, rfl, rfl⟩ := ok_inj hm
  refine good_pure fun σ w ρ oe m => ⟨ρ x, oe x _ hv, ?_⟩
  rcases ho with ho | ho <;> · unfold execOp; simp only [ho]; rfl
theorem pick_good {c x y : Operand} (ho : o.op = .pick c x y) (hm : mPick h nx (evO G e c) (evO G e x) (evO G e y) = .ok v h' nx') : Good P G o e h nx v h' nx' := by
  unfold mPick at hm
  split at hm
  · rename_i b a a' h1 h2 h3
    obtain ⟨rfl, rfl, rfl⟩ := ok_inj hm
    refine good_pure fun σ w ρ oe m => ?_
    have hc := (oe c _ h1).scal_inv rfl
    cases b with
    | true => exact ⟨ρ x, oe x _ h2, by unfold execOp; simp [ho, hc, asBool]⟩
    | false => exact ⟨ρ y, oe y _ h3, by unfold execOp; simp [ho, hc, asBool]⟩
  · cases hm
theorem nil_good {x : Operand} (ho : o.op = .nilCheck x) (hm : mNil h nx (evO G e x) = .ok v h' nx') : Good P G o e h nx v h' nx' := by
  unfold mNil at hm
  split at hm
  · rename_i a h1
    obtain ⟨rfl, rfl, rfl⟩ := ok_inj hm
    refine good_pure fun σ w ρ oe m => ⟨ρ x, oe x _ h1, ?_⟩
    have hx := oe x _ h1
    obtain ⟨id, off, sp⟩ := a
    cases sp with
    | some z =>
      generalize ρ x = u at hx
      cases hx with
      | sc _ hs _ => cases hs
    | none =>
      obtain ⟨L, _, hu⟩ := hx.ptr_inv
      unfold execOp; simp [ho, hu]
  · rename_i f a b h1
    obtain ⟨rfl, rfl, rfl⟩ := ok_inj hm
    refine good_pure fun σ w ρ oe m => ⟨ρ x, oe x _ h1, ?_⟩
    obtain ⟨ys, ys', hu, _⟩ := VR.func_inv (xs := a.toList) (xs' := b.toList) (oe x _ h1)
    unfold execOp; simp [ho, hu]
  · cases hm
theorem extract_good {x : Operand} {i : Nat} (ho : o.op = .extract x i) (hm : mExtract h nx i (evO G e x) = .ok v h' nx') : Good P G o e h nx v h' nx' := by
  unfold mExtract at hm
  split at hm
  · rename_i vs h1
    split at hm
    · rename_i v' h2
      obtain ⟨rfl, rfl, rfl⟩ := ok_inj hm
      refine good_pure fun σ w ρ oe m => ?_
      obtain ⟨ys, hu, hr⟩ := (oe x _ h1).tuple_inv
      obtain ⟨y, hy, hvy⟩ := hr.get h2
      exact ⟨y, hvy, by unfold execOp; simp [ho, hu, Instr.extract, hy]⟩
    · cases hm
  · cases hm
theorem func_good {f : Fn} {xs ys : Array Operand} (ho : o.op = .makeFunc f xs ys) (hm : mFunc h nx f (evL G e xs.toList) (evL G e ys.toList) = .ok v h' nx') : Good P G o e h nx v h' nx' := by
  unfold mFunc at hm
  split at hm
  · rename_i us vs h1 h2
    split at hm
    · rename_i f'
      obtain ⟨rfl, rfl, rfl⟩ := ok_inj hm
      refine good_pure fun σ w ρ oe m => ⟨.func (.func f') (xs.map ρ) (ys.map ρ), ?_, by unfold execOp; simp [ho, Instr.makeFunc]⟩
      have e1 : xs.map ρ = ⟨xs.toList.map ρ⟩ := by apply Array.ext'; simp
      have e2 : ys.map ρ = ⟨ys.toList.map ρ⟩ := by apply Array.ext'; simp
      rw [e1, e2]
      exact .func _ (oe.list h1) (oe.list h2) .nil
    · cases hm
  · cases hm
theorem iface_good {t : TypeId} {x : Operand} (ho : o.op = .makeInterface t x) (hm : mIface P h nx t (evO G e x) = .ok v h' nx') : Good P G o e h nx v h' nx' := by
  unfold mIface at hm
  split at hm
  · rename_i v' h1
    split at hm
    · cases hm
    · rename_i d hd hu
      obtain ⟨rfl, rfl, rfl⟩ := ok_inj hm
      refine good_pure fun σ w ρ oe m => ⟨.iface t (ρ x), .iface t (oe x _ h1) .nil, ?_⟩
      unfold execOp
      simp only [ho, Instr.makeInterface, Sem.run_bind, run_underlying hu, Result.andThen_ok]
      cases d <;> first | rfl | (exfalso; exact hd _ rfl)
    · cases hm
  · cases hm
theorem sizeTy_info {t n : Nat} (hs : sizeTy P t = some n) : ∃ i, P.info? t = some i ∧ i.size = n := by
  unfold sizeTy at hs
  cases hi : P.info? t with
  | none => simp [hi] at hs
  | some i => exact ⟨i, rfl, by simpa [hi] using hs⟩
theorem run_isAgg {t : TypeId} {r : Option Nat} (hr : rowSz P t = some r) (w : World) : (isAgg t).run P w = .ok r.isSome w ∧ ∀ n, r = some n → ∃ i, P.info? t = some i ∧ i.size = n := by
  unfold rowSz at hr
  unfold isAgg
  rw [Sem.run_bind]
  split at hr
  · rename_i fs hu
    obtain ⟨i, hi, rfl⟩ := Option.map_eq_some_iff.1 hr
    exact ⟨by rw [run_underlying hu w]; rfl, fun n hn => ⟨i, hi, by injection hn⟩⟩
  · rename_i n el hu
    obtain ⟨i, hi, rfl⟩ := Option.map_eq_some_iff.1 hr
    exact ⟨by rw [run_underlying hu w]; rfl, fun n hn => ⟨i, hi, by injection hn⟩⟩
  · rename_i d hd hd' hu
    injection hr with hr; subst hr
    refine ⟨?_, fun n hn => by cases hn⟩
    rw [run_underlying hu w]
    cases d <;> first | rfl | (exfalso; exact hd _ rfl) | (exfalso; exact hd' _ _ rfl)
  · cases hr
theorem rangeAt_loadCells {w : World} {b o : Nat} {us : List Value} (hc : w.rangeAt b o us) : (loadCells ⟨b, o, none⟩ us.length).run P w = .ok us.toArray w :=
  run_loadCells_list (P := P) w ⟨b, o, none⟩ us (fun j v hv => by rw [Addr.add_mid]; exact hc j v hv)
theorem load_good {t : TypeId} {a : Operand} (ho : o.op = .load t a) (hm : mLoad P h nx t (evO G e a) = .ok v h' nx') : Good P G o e h nx v h' nx' := by
  unfold mLoad at hm
  split at hm
  · rename_i id off h1
    split at hm
    · rename_i el n k c hb
      split at hm
      · rename_i hr
        split at hm
        · rename_i v' hv
          obtain ⟨rfl, rfl, rfl⟩ := ok_inj hm
          refine good_pure fun σ w ρ oe m => ?_
          obtain ⟨L, hL, hu⟩ := (oe a _ h1).ptr_inv
          obtain ⟨u, hc, hvu⟩ := m.cell hb hL hv
          refine ⟨u, hvu, ?_⟩
          unfold execOp
          simp only [ho, hu, Instr.loadAt, Instr.sureAddr, Sem.run_bind, Sem.run_pure, Result.andThen_ok, loadVar, (run_isAgg hr w).1, Option.isSome_none, Bool.false_eq_true, if_false]
          simp [hc]
        · cases hm
      · rename_i m hr
        split at hm
        · rename_i l hl
          obtain ⟨rfl, rfl, rfl⟩ := ok_inj hm
          refine good_pure fun σ w ρ oe mr => ?_
          obtain ⟨L, hL, hu⟩ := (oe a _ h1).ptr_inv
          obtain ⟨us, h2, h3, h4⟩ := mr.ldN hb hL m off hl
          refine ⟨.agg ⟨us⟩, .agg h2 .nil, ?_⟩
          obtain ⟨i, hi, hs⟩ := (run_isAgg hr w).2 m rfl
          have hcells := rangeAt_loadCells (P := P) h4
          rw [h3] at hcells
          unfold execOp
          simp [ho, hu, Instr.loadAt, Instr.sureAddr, loadVar, (run_isAgg hr w).1, sizeOf, typeInfo, hi, hs, hcells]
        · cases hm
      · cases hm
    · cases hm
  · cases hm
theorem store_good {t : TypeId} {a x : Operand} (ho : o.op = .store t a x) (hm : mStore P h nx t (evO G e a) (evO G e x) = .ok v h' nx') : Good P G o e h nx v h' nx' := by
  unfold mStore at hm
  split at hm
  · rename_i id off v' h1 h2
    split at hm
    · rename_i n hn
      obtain ⟨hlen, hm⟩ := bo_inv hm (by simp)
      split at hm
      · rename_i h2' hw
        obtain ⟨rfl, rfl, rfl⟩ := ok_inj hm
        intro σ w ρ oe m
        obtain ⟨L, hL, hu⟩ := (oe a _ h1).ptr_inv
        have hc := (oe x _ h2).cells
        obtain ⟨hrun, htr⟩ := m.write (P := P) hw hL hc
        obtain ⟨i, hi, hs⟩ := sizeTy_info hn
        have hsz : (ρ x).cells.size = i.size := by
          rw [hs, ← Nat.eq_of_beq_eq_true hlen, hc.len]; simp
        refine ⟨undef, _, .inr ⟨?_, rfl⟩, σ, VR.undef, htr⟩
        unfold execOp
        simp [ho, hu, Instr.storeAt, Instr.sureAddr, storeVar, sizeOf, typeInfo, hi, hsz, hrun]
      · cases hm
    · cases hm
  · cases hm
theorem zeroTy_info {t : TypeId} {z : Value} (hz : zeroTy P t = some z) : ∃ i, P.info? t = some i ∧ i.zero = some z ∧ flat z = true := by
  unfold zeroTy at hz
  split at hz
  · rename_i i hi
    split at hz
    · rename_i z' hz'
      obtain ⟨h1, h2⟩ := bo_inv hz (by simp)
      injection h2 with h2; subst h2
      exact ⟨i, hi, hz', h1⟩
    · cases hz
  · cases hz
theorem newB_inv {B : Bl} {u : Value} (hm : newB h nx B u = .ok v h' nx') : v = u ∧ h' = h.put nx B ∧ nx' = nx + 1 := by
  unfold newB at hm
  rw [blS_eq, putS_eq, natS_eq] at hm
  obtain ⟨rfl, rfl, rfl⟩ := ok_inj hm
  exact ⟨rfl, rfl, rfl⟩
/-- A new row of cells, all known. -/
theorem MR.newRow {σ : Sg} {w : World} (m : MR G σ h.get nx w) (el : TypeId) (c : Tb Value) {cs us : List Value} (hv : VRs σ cs us) (hc : ∀ i, c.get i = cs[i]?) :
    ∃ σ', σ' nx = some ⟨w.heap.size, 0, us.length⟩ ∧ σ.le σ' ∧ Tr G σ h.get nx w σ' (h.put nx (.cells el cs.length 0 c)).get (nx + 1) (w.alloc (.cells us.toArray el)) := by
  have := m.newRowIn (w' := w.alloc (.cells us.toArray el)) el c hv hc (heap_alloc_new w _) (fun i u hu => by simpa using hu) (by simp) (.inl rfl) ⟨rfl, rfl, rfl⟩ (by simp) (fun r hr => Below.heap_alloc w _ r hr)
  simpa using this
theorem alloc_good {el : TypeId} (ho : o.op = .alloc el) (hm : mAlloc P h nx el = .ok v h' nx') : Good P G o e h nx v h' nx' := by
  unfold mAlloc at hm
  split at hm
  · rename_i z hz
    obtain ⟨rfl, rfl, rfl⟩ := newB_inv hm
    obtain ⟨i, hi, hiz, hf⟩ := zeroTy_info hz
    intro σ w ρ oe m
    obtain ⟨σ', h1, h2, h3⟩ := m.newRow el (Tb.of z.cells.toList) ((VR.of_flat (σ := σ) hf).cells) (fun i => Tb.get_of _ i)
    refine ⟨.pointer (some ⟨w.heap.size, 0, none⟩), _, .inl ?_, σ', .ptr (L := ⟨w.heap.size, 0, _⟩) h1 .nil, h3⟩
    unfold execOp
    simp [ho, Instr.alloc, zeroValue, typeInfo, hi, hiz, newVar, newRow]
  · cases hm
theorem box_good {el : TypeId} {x : Operand} (ho : o.op = .box el x) (hm : mBox h nx el (evO G e x) = .ok v h' nx') : Good P G o e h nx v h' nx' := by
  unfold mBox at hm
  split at hm
  · rename_i v' h1
    obtain ⟨rfl, rfl, rfl⟩ := newB_inv hm
    intro σ w ρ oe m
    obtain ⟨σ', h2, h3, h4⟩ := m.newRow el (Tb.of v'.cells.toList) (oe x _ h1).cells (fun i => Tb.get_of _ i)
    refine ⟨.pointer (some ⟨w.heap.size, 0, none⟩), _, .inl ?_, σ', .ptr (L := ⟨w.heap.size, 0, _⟩) h2 .nil, h4⟩
    unfold execOp
    simp [ho, Instr.box, newVar, newRow]
  · cases hm
theorem pureRun_ok {α : Type} : ∀ (s : Sem α) {a : α}, pureRun P s = some a → ∀ w, s.run P w = .ok a w := by
  intro s
  induction s with
  | pure a => intro b hb w; injection hb with hb; subst hb; rfl
  | program k ih => intro b hb w; exact ih P hb w
  | mark m k ih => intro b hb w; exact ih hb w
  | _ => intro b hb; cases hb
theorem allFlat_ok {σ : Sg} {ρ : Operand → Value} (oe : OE σ G e ρ) : ∀ {l : List Operand}, allFlat G e l = true → ∀ x ∈ l, ρ x = (evO G e x).getD undef
  | [], _ => by simp
  | y :: l, hl => by
    change (match evO G e y with | some v => bo (flat v) (allFlat G e l) false | none => false) = true at hl
    split at hl
    · rename_i v hv
      obtain ⟨h1, h2⟩ := bo_inv hl (by simp)
      intro x hx
      rcases List.mem_cons.1 hx with rfl | hx
      · rw [hv]; exact (oe _ _ hv).eq_of_flat h1
      · exact allFlat_ok oe h2 x hx
    · cases hl
theorem flat_good (hsel : ∀ cs b, o.op ≠ .select cs b) (hm : mFlat P G e h nx o = .ok v h' nx') : Good P G o e h nx v h' nx' := by
  obtain ⟨h1, hm⟩ := bo_inv hm (by simp)
  split at hm
  · rename_i v' hp
    obtain ⟨h2, hm⟩ := bo_inv hm (by simp)
    obtain ⟨rfl, rfl, rfl⟩ := ok_inj hm
    refine good_pure fun σ w ρ oe m => ⟨_, VR.of_flat h2, ?_⟩
    rw [execOp_congr o hsel (fun x hx => allFlat_ok oe h1 x (by simpa using hx))]
    exact pureRun_ok _ hp w
  · cases hm
theorem fieldAddr_good {s f : Nat} {x : Operand} (ho : o.op = .fieldAddr s x f) (hm : mFieldAddr P h nx s f (evO G e x) = .ok v h' nx') : Good P G o e h nx v h' nx' := by
  unfold mFieldAddr at hm
  split at hm
  · rename_i id off h1
    split at hm
    · rename_i k hk
      obtain ⟨rfl, rfl, rfl⟩ := ok_inj hm
      refine good_pure fun σ w ρ oe m => ?_
      obtain ⟨L, hL, hu⟩ := (oe x _ h1).ptr_inv
      refine ⟨.pointer (some ⟨L.blk, L.base + off + k, none⟩), by rw [Nat.add_assoc]; exact .ptr hL .nil, ?_⟩
      unfold fieldOff at hk
      split at hk
      · rename_i fs hus
        split at hk
        · rename_i fd hfd
          split at hk
          · rename_i i hi
            split at hk
            · cases hk
            · rename_i hz
              simp only [Option.some.injEq] at hk
              subst hk
              unfold execOp
              simp [ho, hu, Instr.fieldAt, run_underlying hus, hfd, Instr.sureAddr, fieldPlace, sizeOf, typeInfo, hi, hz, Addr.add_mid]
          · cases hk
        · cases hk
      · cases hk
    · cases hm
  · cases hm
end
end Go.Proofs.YtklciidffdnglaaDoor
