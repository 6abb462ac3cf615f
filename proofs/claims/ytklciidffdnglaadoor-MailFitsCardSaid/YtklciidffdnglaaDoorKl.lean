/- The machine that runs closed code: an operation looks at its operands alone; operations that only lay a new block. Over any program. No condition. -/
import Derived.Test.YtklciidffdnglaaDoorKk
namespace Go.Proofs.YtklciidffdnglaaDoor
open Go.RowKit

section
variable {P : Program} {G : Nat} {o : Oper} {e e' : Tb Value} {h h' : Hp} {nx nx' : Nat} {v : Value} {call : CallF}
theorem evL_congr : ∀ {l : List Operand}, (∀ x ∈ l, evO G e x = evO G e' x) → evL G e l = evL G e' l
  | [], _ => rfl
  | x :: l, he => by
    show oo (evO G e x) none (fun v => oo (evL G e l) none (fun vs => some (v :: vs))) = oo (evO G e' x) none (fun v => oo (evL G e' l) none (fun vs => some (v :: vs)))
    rw [he x (by simp), evL_congr (fun y hy => he y (by simp [hy]))]
theorem evP_congr : ∀ {l : List (Nat × Operand)}, (∀ x ∈ l, evO G e x.2 = evO G e' x.2) → evP G e l = evP G e' l
  | [], _ => rfl
  | x :: l, he => by
    show oo (evO G e x.2) none (fun v => oo (evP G e l) none (fun vs => some ((x.1, v) :: vs))) = oo (evO G e' x.2) none (fun v => oo (evP G e' l) none (fun vs => some ((x.1, v) :: vs)))
    rw [he x (by simp), evP_congr (fun y hy => he y (by simp [hy]))]
theorem allFlat_congr : ∀ {l : List Operand}, (∀ x ∈ l, evO G e x = evO G e' x) → allFlat G e l = allFlat G e' l
  | [], _ => rfl
  | x :: l, he => by
    show (match evO G e x with | some v => bo (flat v) (allFlat G e l) false | none => false) = (match evO G e' x with | some v => bo (flat v) (allFlat G e' l) false | none => false)
    rw [he x (by simp), allFlat_congr (fun y hy => he y (by simp [hy]))]
theorem mFlat_congr (hsel : ∀ cs b, o.op ≠ .select cs b) (he : ∀ x ∈ o.op.operands.toList, evO G e x = evO G e' x) : mFlat P G e h nx o = mFlat P G e' h nx o := by
  unfold mFlat
  rw [allFlat_congr he, execOp_congr (ρ := fun x => (evO G e x).getD undef) (ρ' := fun x => (evO G e' x).getD undef) o hsel (fun x hx => by rw [he x (by simpa using hx)])]
theorem mBin_congr {op : BinOp} {t : TypeId} {a b : Option Value} (hf : mFlat P G e h nx o = mFlat P G e' h nx o) : mBin P G e h nx o op t a b = mBin P G e' h nx o op t a b := by
  cases a with
  | none => rfl
  | some a => cases b with
    | none => rfl
    | some b =>
      show binV a b P G e h nx o op t = binV a b P G e' h nx o op t
      cases a <;> simp only [binV, binInt, binStr, binAny, hf]
theorem mConv_congr {s d : TypeId} {a : Option Value} (hf : mFlat P G e h nx o = mFlat P G e' h nx o) : mConv P G e h nx o s d a = mConv P G e' h nx o s d a := by
  unfold mConv; simp only [hf]
theorem mBuiltin_congr {b : Builtin} {args : List Operand} {ts : List TypeId} (hf : mFlat P G e h nx o = mFlat P G e' h nx o) (he : ∀ x ∈ args, evO G e x = evO G e' x) : mBuiltin P G e h nx o b args ts = mBuiltin P G e' h nx o b args ts := by
  unfold mBuiltin
  split
  · rw [he _ (by simp)]
  · rw [he _ (by simp), he _ (by simp)]
  · rw [he _ (by simp), he _ (by simp)]
  · rw [he _ (by simp)]
  · exact hf
  · exact hf
  · rfl
theorem optmap_congr {x : Option Operand} (he : ∀ y ∈ x.toList, evO G e y = evO G e' y) : x.map (evO G e) = x.map (evO G e') := by
  cases x with
  | none => rfl
  | some y => simp [he y (by simp)]
theorem mOp_congr (he : ∀ x ∈ o.op.operands.toList, evO G e x = evO G e' x) : mOp P G call e h nx o = mOp P G call e' h nx o := by
  have hfl : (∀ cs b, o.op ≠ .select cs b) → mFlat P G e h nx o = mFlat P G e' h nx o := fun hs => mFlat_congr hs he
  rw [mOp_eq, mOp_eq]
  unfold sOp
  cases ho : o.op
  case move x => show mMove h nx (evO G e x) = mMove h nx (evO G e' x); rw [he x (by simp [ho, Op.operands])]
  case assign x => show mMove h nx (evO G e x) = mMove h nx (evO G e' x); rw [he x (by simp [ho, Op.operands])]
  case pick c x y => show mPick h nx (evO G e c) (evO G e x) (evO G e y) = _; rw [he c (by simp [ho, Op.operands]), he x (by simp [ho, Op.operands]), he y (by simp [ho, Op.operands])]; rfl
  case alloc => rfl
  case box el x => show mBox h nx el (evO G e x) = _; rw [he x (by simp [ho, Op.operands])]; rfl
  case build t ps => show mBuild P h nx t (evP G e ps.toList) = _; rw [evP_congr (fun x hx => he x.2 (by simp only [ho, Op.operands]; simp; exact ⟨x.1, by simpa using hx⟩))]; rfl
  case buildSlice t m ps => show mBuildSlice P h nx t m (evP G e ps.toList) = _; rw [evP_congr (fun x hx => he x.2 (by simp only [ho, Op.operands]; simp; exact ⟨x.1, by simpa using hx⟩))]; rfl
  case insert t m k x => show mUpdate P h nx t (evO G e m) (evO G e k) (evO G e x) = _; rw [he m (by simp [ho, Op.operands]), he k (by simp [ho, Op.operands]), he x (by simp [ho, Op.operands])]; rfl
  case load t x => show mLoad P h nx t (evO G e x) = _; rw [he x (by simp [ho, Op.operands])]; rfl
  case store t x y => show mStore P h nx t (evO G e x) (evO G e y) = _; rw [he x (by simp [ho, Op.operands]), he y (by simp [ho, Op.operands])]; rfl
  case nilCheck x => show mNil h nx (evO G e x) = _; rw [he x (by simp [ho, Op.operands])]; rfl
  case binOp op t x y t' =>
    show mBin P G e h nx o op t (evO G e x) (evO G e y) = _
    rw [he x (by simp [ho, Op.operands]), he y (by simp [ho, Op.operands])]
    exact mBin_congr (hfl (fun cs b hh => by rw [ho] at hh; cases hh))
  case unOp => exact hfl (fun cs b hh => by rw [ho] at hh; cases hh)
  case convert s d x =>
    show mConv P G e h nx o s d (evO G e x) = _
    rw [he x (by simp [ho, Op.operands])]
    exact mConv_congr (hfl (fun cs b hh => by rw [ho] at hh; cases hh))
  case sliceToArrayPointer t x => show mArr P h nx t (evO G e x) = _; rw [he x (by simp [ho, Op.operands])]; rfl
  case makeInterface t x => show mIface P h nx t (evO G e x) = _; rw [he x (by simp [ho, Op.operands])]; rfl
  case makeFunc f xs ys => show mFunc h nx f (evL G e xs.toList) (evL G e ys.toList) = _; rw [evL_congr (fun x hx => he x (by simp only [ho, Op.operands]; simp; left; simpa using hx)), evL_congr (fun x hx => he x (by simp only [ho, Op.operands]; simp; right; simpa using hx))]; rfl
  case makeMap t r => show mMakeMap P h nx t (r.map (evO G e)) = _; rw [optmap_congr (fun y hy => he y (by simp only [ho, Op.operands]; simpa using hy))]; rfl
  case makeSlice t x y => show mMakeSlice P h nx t (evO G e x) (evO G e y) = _; rw [he x (by simp [ho, Op.operands]), he y (by simp [ho, Op.operands])]; rfl
  case slice t x lo hi mx =>
    show mSlice P h nx t (evO G e x) (lo.map (evO G e)) (hi.map (evO G e)) (mx.map (evO G e)) = _
    rw [he x (by simp [ho, Op.operands]), optmap_congr (x := lo) (fun y hy => he y (by simp only [ho, Op.operands]; simp at hy; simp [hy])), optmap_congr (x := hi) (fun y hy => he y (by simp only [ho, Op.operands]; simp at hy; simp [hy])), optmap_congr (x := mx) (fun y hy => he y (by simp only [ho, Op.operands]; simp at hy; simp [hy]))]; rfl
  case fieldAddr s x f => show mFieldAddr P h nx s f (evO G e x) = _; rw [he x (by simp [ho, Op.operands])]; rfl
  case field s x f => show mField P h nx s f (evO G e x) = _; rw [he x (by simp [ho, Op.operands])]; rfl
  case indexAddr t x i => show mIndexAddr P h nx t (evO G e x) (evO G e i) = _; rw [he x (by simp [ho, Op.operands]), he i (by simp [ho, Op.operands])]; rfl
  case index t x i => show mIndex P h nx t (evO G e x) (evO G e i) = _; rw [he x (by simp [ho, Op.operands]), he i (by simp [ho, Op.operands])]; rfl
  case lookup t x i ok => show mLookup P h nx t ok (evO G e x) (evO G e i) = _; rw [he x (by simp [ho, Op.operands]), he i (by simp [ho, Op.operands])]; rfl
  case mapUpdate t m k x => show mUpdate P h nx t (evO G e m) (evO G e k) (evO G e x) = _; rw [he m (by simp [ho, Op.operands]), he k (by simp [ho, Op.operands]), he x (by simp [ho, Op.operands])]; rfl
  case range t x => show mRange P h nx t (evO G e x) = _; rw [he x (by simp [ho, Op.operands])]; rfl
  case next x b => show mNext h nx b (evO G e x) = _; rw [he x (by simp [ho, Op.operands])]; rfl
  case mapEntry t m k => show mMapEntry P h nx t (evO G e m) (evO G e k) = _; rw [he m (by simp [ho, Op.operands]), he k (by simp [ho, Op.operands])]; rfl
  case entryStore t m s x => show mEntryStore h nx (evO G e m) (evO G e s) (evO G e x) = _; rw [he m (by simp [ho, Op.operands]), he s (by simp [ho, Op.operands]), he x (by simp [ho, Op.operands])]; rfl
  case entry x => show mEntry h nx (evO G e x) = _; rw [he x (by simp [ho, Op.operands])]; rfl
  case extract x i => show mExtract h nx i (evO G e x) = _; rw [he x (by simp [ho, Op.operands])]; rfl
  case call c =>
    obtain ⟨callee, args, ts⟩ := c
    cases callee with
    | value f =>
      show mCall P call h nx (evO G e f) (evL G e args.toList) = mCall P call h nx (evO G e' f) (evL G e' args.toList)
      rw [he f (by simp [ho, Op.operands, Call.operands]), evL_congr (fun x hx => he x (by simp only [ho, Op.operands, Call.operands]; simp; right; simpa using hx))]
    | builtin b =>
      show mBuiltin P G e h nx o b args.toList ts.toList = mBuiltin P G e' h nx o b args.toList ts.toList
      exact mBuiltin_congr (hfl (fun cs b hh => by rw [ho] at hh; cases hh)) (fun x hx => he x (by simp only [ho, Op.operands, Call.operands]; simpa using hx))
    | invoke r m => rfl
  all_goals rfl
theorem mGuard_congr {ops : Array Oper} {g : Nat × Bool} (he : ∀ d, (ops[g.1]?).bind (·.dst) = some d → e.get d = e'.get d) : mGuard ops e g = mGuard ops e' g := by
  unfold mGuard
  split
  · rename_i d hd; rw [he d hd]
  · rfl

/-- The operation lays the new block B, whatever else is in memory; id: its number. -/
def FreshR (P : Program) (G : Nat) (o : Oper) (e : Tb Value) (id : Nat) (v : Value) (B : Bl) : Prop :=
  ∀ σ w ρ, OE σ G e ρ → ∃ (L : Loc) (u : Value) (w' : World), (execOp ρ o).run P w = .ok (.value u) w' ∧ L.blk = w.heap.size ∧ (w'.os = w.os ∧ w'.tape = w.tape ∧ w'.output = w.output) ∧ w'.heap.size = w.heap.size + 1 ∧ (∀ r, r < w.heap.size → w'.heap[r]? = w.heap[r]?) ∧
    ∀ σ' : Sg, σ.le σ' → σ' id = some L → BR σ' L w' B ∧ VR σ' v u
theorem BR.row {σ σ' : Sg} {w w' : World} (el : TypeId) (c : Tb Value) {cs us : List Value} {row : Array Value} {fz : Nat × Nat} (hs : σ.le σ') (hv : VRs σ cs us) (hc : ∀ i, c.get i = cs[i]?)
    (hb : w'.heap[w.heap.size]? = some (.cells row el fz)) (hrow : ∀ (i : Nat) u, us[i]? = some u → row[i]? = some u) (hle : us.length ≤ row.size) (hfz : fz.1 = fz.2 ∨ row.size ≤ fz.1) : BR σ' ⟨w.heap.size, 0, row.size⟩ w' (.cells el cs.length 0 c) :=
  ⟨row, fz, hb, rfl, by simp [hv.len, hle], fun i => by rw [hc]; simp, fun i v hi => by
    rw [hc] at hi
    obtain ⟨u, hu, hr⟩ := hv.get hi
    exact ⟨u, by rw [Nat.zero_add]; exact hrow i u hu, hr.mono hs⟩, fun _ => hfz⟩
/-- A whole new row. -/
theorem fresh_row {el : TypeId} {id : Nat} {c : Tb Value} {n : Nat} {mk : Option Addr → Value} (hmk : ∀ σ u' id (L : Loc), σ id = some L → L.base = 0 → u' = mk (some ⟨L.blk, 0, none⟩) → VR σ (mk (some ⟨id, 0, none⟩)) u')
    (hp : ∀ σ w ρ, OE σ G e ρ → ∃ cs us : List Value, VRs σ cs us ∧ cs.length = n ∧ (∀ i, c.get i = cs[i]?) ∧ (execOp ρ o).run P w = .ok (.value (mk (some ⟨w.heap.size, 0, none⟩))) (w.alloc (.cells us.toArray el))) :
    FreshR P G o e id (mk (some ⟨id, 0, none⟩)) (.cells el n 0 c) := fun σ w ρ oe => by
  obtain ⟨cs, us, hv, hn, hc, hrun⟩ := hp σ w ρ oe
  subst hn
  refine ⟨⟨w.heap.size, 0, us.toArray.size⟩, _, _, hrun, rfl, ⟨rfl, rfl, rfl⟩, by simp, fun r hr => Below.heap_alloc w _ r hr, fun σ' hs hL => ⟨?_, hmk σ' _ id _ hL rfl rfl⟩⟩
  exact BR.row el c hs hv hc (heap_alloc_new w _) (fun i u hu => by simpa using hu) (by simp) (.inl rfl)
theorem mk_ptr (σ : Sg) (u' : Value) (id : Nat) (L : Loc) (h : σ id = some L) (hb : L.base = 0) (hu : u' = .pointer (some ⟨L.blk, 0, none⟩)) : VR σ (.pointer (some ⟨id, 0, none⟩)) u' := by
  subst hu
  have := VRs.ptr (off := 0) h (VRs.nil (σ := σ))
  rw [hb] at this; exact this
theorem mk_sl (n c : Nat) (σ : Sg) (u' : Value) (id : Nat) (L : Loc) (h : σ id = some L) (hb : L.base = 0) (hu : u' = .slice (some ⟨L.blk, 0, none⟩) n c) : VR σ (.slice (some ⟨id, 0, none⟩) n c) u' := by
  subst hu
  have := VRs.sl (off := 0) (n := n) (c := c) h (VRs.nil (σ := σ))
  rw [hb] at this; exact this
theorem newB_fresh {id : Nat} {B B0 : Bl} {u : Value} (hB : h'.get id = some B) (hm : newB .lf id B0 u = .ok v h' nx') (hf : FreshR P G o e id u B0) : FreshR P G o e id v B := by
  obtain ⟨rfl, rfl, rfl⟩ := newB_inv hm
  rw [Tb.get_put_same] at hB; injection hB with hB; subst hB
  exact hf
theorem flat_heap (hm : mFlat P G e h nx o = .ok v h' nx') : h' = h := by
  obtain ⟨h1, hm⟩ := bo_inv hm (by simp)
  split at hm
  · obtain ⟨h2, hm⟩ := bo_inv hm (by simp)
    exact (ok_inj hm).2.1.symm
  · cases hm
theorem no_lf {id : Nat} {B : Bl} (hB : (Tb.lf : Hp).get id = some B) {p : Prop} : p := by rw [Tb.get_lf] at hB; cases hB
/-- 1: it lays a new block and looks at none · 2: it may change memory · 0: it only looks. -/
noncomputable def dKind (P : Program) : Op → Nat
  | .alloc _ | .box _ _ | .buildSlice _ _ _ | .makeMap _ _ | .makeSlice _ _ _ => 1
  | .convert s d _ => match P.underlying s, P.underlying d with
    | some .string, some (.slice _) => 1
    | _, some (.slice _) => 2
    | _, _ => 0
  | .store _ _ _ | .mapUpdate _ _ _ _ | .insert _ _ _ _ | .range _ _ | .next _ _ | .mapEntry _ _ _ | .entryStore _ _ _ _ => 2
  | .call c => match c.callee with
    | .builtin .len => 0
    | .builtin .min => 0
    | .builtin .max => 0
    | _ => 2
  | _ => 0
theorem fresh_ok {id : Nat} {B : Bl} (hk : dKind P o.op = 1) (hm : mOp P G call e .lf id o = .ok v h' nx') (hB : h'.get id = some B) : FreshR P G o e id v B := by
  rw [mOp_eq] at hm
  unfold sOp at hm
  cases ho : o.op <;> rw [ho] at hm hk <;> try (simp only [dKind] at hk; done)
  case alloc el =>
    have hm : mAlloc P .lf id el = .ok v h' nx' := hm
    unfold mAlloc at hm
    split at hm
    · rename_i z hz
      obtain ⟨i, hi, hiz, hfl⟩ := zeroTy_info hz
      refine newB_fresh hB hm (fresh_row (mk := fun a => .pointer a) mk_ptr fun σ w ρ oe => ⟨_, z.cells.toList, (VR.of_flat (σ := σ) hfl).cells, rfl, fun i => Tb.get_of _ i, ?_⟩)
      unfold execOp
      simp [ho, Instr.alloc, zeroValue, typeInfo, hi, hiz, newVar, newRow]
    · cases hm
  case box el x =>
    have hm : mBox .lf id el (evO G e x) = .ok v h' nx' := hm
    unfold mBox at hm
    split at hm
    · rename_i a ha
      refine newB_fresh hB hm (fresh_row (mk := fun a => .pointer a) mk_ptr fun σ w ρ oe => ⟨_, (ρ x).cells.toList, (oe x _ ha).cells, rfl, fun i => Tb.get_of _ i, ?_⟩)
      unfold execOp
      simp [ho, Instr.box, newVar, newRow]
    · cases hm
  case buildSlice t len ps =>
    have hm : mBuildSlice P .lf id t len (evP G e ps.toList) = .ok v h' nx' := hm
    unfold mBuildSlice at hm
    split at hm
    · rename_i qs hq
      split at hm
      · rename_i el s ht
        split at hm
        · rename_i z hz
          obtain ⟨hc, hm1⟩ := bo_inv hm (by simp)
          clear hm
          have hm := hm1; clear hm1
          simp only [Bool.and_eq_true] at hc
          have hzs := Nat.eq_of_beq_eq_true hc.1
          have hpos := blt_lt hc.2.1
          have hsm := Nat.le_of_ble_eq_true hc.2.2
          split at hm
          · rename_i cs hf
            obtain ⟨hu, ie, hie, hies⟩ := slEl ht
            obtain ⟨i, hi, hiz, hfl⟩ := zeroTy_info hz
            rw [hie] at hi; injection hi with hi; subst hi
            subst hies
            refine newB_fresh hB hm (fresh_row (mk := fun a => .slice a len len) (mk_sl len len) fun σ w ρ oe => ?_)
            obtain ⟨h1, h2⟩ := oe.parts hq
            have e1 : (ps.toList.map fun p => (p.1, ρ p.2)).map (·.1) = ps.toList.map (·.1) := by rw [List.map_map]; rfl
            have e2 : (ps.toList.map fun p => (p.1, ρ p.2)).map (·.2) = ps.toList.map fun p => ρ p.2 := by rw [List.map_map]; rfl
            obtain ⟨us', h3, h4⟩ := fillL_ok (σ := σ) (qs := ps.toList.map fun p => (p.1, ρ p.2)) hf (((VR.of_flat (σ := σ) hfl).cells).zeros len) (by rw [e1]; exact h1) (by rw [e2]; exact h2)
            refine ⟨cs, us', h4, rfl, fun i => Tb.get_of _ i, ?_⟩
            have hzs' : z.cells.size = ie.size := by simpa using hzs
            by_cases h0 : len = 0
            · subst h0
              have e3 : Instr.fill (fun i => some (i * ie.size, ie.size)) #[] (ps.toList.map fun p => (p.1, ρ p.2)) = some us'.toArray := h3
              unfold execOp
              simp only [ho, Instr.buildSlice, Sem.run_bind, run_underlying hu, Result.andThen_ok, sizeOf, typeInfo]
              simp [hie, e3, newRow, show Array.range 0 = #[] from rfl]
            · have hr := run_buildSlice (P := P) w t el len (ps.map fun (i, x) => (i, ρ x)) us'.toArray ie z hu hie hiz (by omega) (Nat.ne_of_gt (Nat.mul_pos (Nat.pos_of_ne_zero h0) hpos)) (by
                rw [parts_eq, ← hzs', made_eq _ _ (by omega), hzs']; exact h3)
              unfold execOp
              simp only [ho, Sem.run_bind, hr, Result.andThen_ok]
              rfl
          · cases hm
        · cases hm
      · cases hm
    · cases hm
  case makeSlice t l c =>
    have hm : mMakeSlice P .lf id t (evO G e l) (evO G e c) = .ok v h' nx' := hm
    unfold mMakeSlice at hm
    split at hm
    · rename_i n k h1 h2
      split at hm
      · rename_i el s ht
        split at hm
        · rename_i z i hz hi
          obtain ⟨hc, hm1⟩ := bo_inv hm (by simp)
          clear hm
          have hm := hm1; clear hm1
          simp only [Bool.and_eq_true] at hc
          have hzs := Nat.eq_of_beq_eq_true hc.1
          have hpos := blt_lt hc.2.1
          have hnk := Nat.le_of_ble_eq_true hc.2.2.1
          have hsm := Nat.le_of_ble_eq_true hc.2.2.2.1
          have hby := Nat.le_of_ble_eq_true hc.2.2.2.2
          obtain ⟨hu, ie, hie, hies⟩ := slEl ht
          rw [hi] at hie; injection hie with hie; subst hie
          subst hies
          obtain ⟨i', hi', hiz, hfl⟩ := zeroTy_info hz
          rw [hi] at hi'; injection hi' with hi'; subst hi'
          have hzs' : z.cells.size = i.size := by simpa using hzs
          have hlen : (zerosN z.cells.toList k).length = k * i.size := by rw [zerosN_length]; simp [hzs']
          refine newB_fresh hB hm (fresh_row (mk := fun a => .slice a n k) (mk_sl n k) fun σ w ρ oe => ⟨zerosN z.cells.toList k, zerosN z.cells.toList k, ((VR.of_flat (σ := σ) hfl).cells).zeros k, hlen, fun j => ?_, ?_⟩)
          · split
            · rename_i x hx
              rw [Tb.get_repN, hx]
              have : ∀ n, zerosN [x] n = List.replicate n x := fun n => by
                induction n with
                | zero => rfl
                | succ n ih => rw [zerosN_succ, ih]; rfl
              rw [this]
            · rw [Tb.get_of]
          · have hbytes : (i.bytes : Int) * (k : Int) ≤ 281474976710656 := by
              have : i.bytes * k ≤ 16777216 * 16777216 := Nat.mul_le_mul hby hsm
              have h9 : ((i.bytes * k : Nat) : Int) ≤ ((16777216 * 16777216 : Nat) : Int) := Int.ofNat_le.2 this
              simpa using h9
            have hrun := run_make (P := P) w t el i z hu hi hiz .i64 .i64 (n : Int) (k : Int) (by omega) (by omega) hbytes (by omega)
            have hmade : madeCells z.cells ((k : Int).toNat * i.size) = (zerosN z.cells.toList k).toArray := by
              rw [← hzs']; exact made_eq z.cells k (by omega)
            rw [hmade] at hrun
            have hl := (oe l _ h1).scal_inv rfl
            have hcc := (oe c _ h2).scal_inv rfl
            unfold execOp
            simp only [ho, hl, hcc, Sem.run_bind]
            have e1 : Int.ofNat n = (n : Int) := rfl
            have e2 : Int.ofNat k = (k : Int) := rfl
            rw [e1, e2, hrun]
            rfl
        · cases hm
      · cases hm
    · cases hm
  case makeMap t r =>
    replace hm : mMakeMap P .lf id t (r.map (evO G e)) = .ok v h' nx' := hm
    have fin : ∀ (run : ∀ σ w ρ, OE σ G e ρ → (execOp ρ o).run P w = .ok (.value (.map (some w.heap.size))) (w.alloc (.map #[] 0))), FreshR P G o e id (.map (some id)) (.map 0 [] []) := fun run σ w ρ oe =>
      ⟨⟨w.heap.size, 0, 0⟩, _, _, run σ w ρ oe, rfl, ⟨rfl, rfl, rfl⟩, by simp, fun r hr => Below.heap_alloc w _ r hr, fun σ' _ hL => ⟨⟨#[], heap_alloc_new w _, .nil, .nil, rfl⟩, .map (L := ⟨w.heap.size, 0, 0⟩) hL .nil⟩⟩
    unfold mMakeMap at hm
    split at hm
    · rename_i hr
      obtain rfl := map_nil hr
      refine newB_fresh hB hm (fin fun σ w ρ oe => ?_)
      unfold execOp
      simp [ho, Instr.makeMap]
    · rename_i k n hr
      split at hm
      · rename_i kt el hu
        refine newB_fresh hB hm (fin fun σ w ρ oe => ?_)
        cases r with
        | none => cases hr
        | some x =>
          simp only [Option.map_some, Option.some.injEq] at hr
          have hx := (oe x _ hr).scal_inv rfl
          unfold execOp
          simp [ho, hx, Instr.makeMap, run_underlying hu, asInt, asIntOf]
      · cases hm
    · cases hm
  case convert s d x =>
    have hm : mConv P G e .lf id o s d (evO G e x) = .ok v h' nx' := hm
    simp only [dKind] at hk
    split at hk
    · rename_i el hs hd
      unfold mConv at hm
      rw [hd, hs] at hm
      split at hm
      · have := flat_heap hm; subst this; exact no_lf hB
      · rename_i b h1
        simp only at hm
        split at hm
        · rename_i hel
          refine newB_fresh hB hm fun σ w ρ oe => ?_
          have hx := (oe x _ h1).scal_inv rfl
          have hrun := Lib.run_convert_string_bytes (P := P) w s d el b hs hd hel
          have hsz : b.size = b.data.toList.length := by obtain ⟨dd⟩ := b; rfl
          have hge := grownCap_ge w b.size 0 el
          have hcs : (Lib.bytesCells w el b).size = grownCap w b.size 0 el := by
            unfold Lib.bytesCells
            rw [Array.size_append, Array.size_map, Array.size_replicate]
            have : b.data.size = b.size := by obtain ⟨dd⟩ := b; rfl
            omega
          refine ⟨⟨w.heap.size, 0, (Lib.bytesCells w el b).size⟩, .slice (some ⟨w.heap.size, 0, none⟩) b.size (grownCap w b.size 0 el), Lib.bytesWorld w el b, by unfold execOp; simp only [ho, hx, Sem.run_bind, hrun, Result.andThen_ok]; rfl, rfl, ⟨rfl, rfl, rfl⟩, Lib.bytesWorld_size w el b, fun r hr => Lib.bytesWorld_at_old w el b r hr, fun σ' hs' hL => ⟨?_, ?_⟩⟩
          · have := BR.row (σ := σ) (σ' := σ') (w := w) (w' := Lib.bytesWorld w el b) (cs := b.data.toList.map fun x => Value.int .u8 (.ofNat x.toNat)) (us := b.data.toList.map fun x => Value.int .u8 (.ofNat x.toNat)) el (Tb.of (b.data.toList.map fun x => Value.int .u8 (.ofNat x.toNat))) hs'
              (VRs.of_get rfl fun i x hx => ⟨x, hx, by
                obtain ⟨y, _, rfl⟩ := List.mem_map.1 (List.mem_of_getElem? hx)
                exact VR.int⟩) (fun i => Tb.get_of _ i) (Lib.bytesWorld_at_new w el b) (fun i u hu => by
                have hi := (List.getElem?_eq_some_iff.1 hu).1
                rw [List.length_map] at hi
                unfold Lib.bytesCells
                rw [Array.getElem?_append_left (by rw [Array.size_map]; simpa using hi)]
                rw [List.getElem?_map] at hu
                simpa using hu) (by rw [List.length_map, hcs, ← hsz]; exact hge) (.inr (Nat.le_refl _))
            rw [List.length_map] at this
            exact this
          · rw [← hsz]
            exact .slo (L := ⟨w.heap.size, 0, (Lib.bytesCells w el b).size⟩) hL hge (by simp [hcs]) .nil
        · cases hm
      · split at hm
        · rename_i hd2; cases hd2
        · cases hm
      · split at hm
        · split at hm
          · split at hm
            · obtain ⟨_, hm⟩ := bo_inv hm (by simp)
              have := (ok_inj hm).2.1; subst this; exact no_lf hB
            · cases hm
          · cases hm
        · split at hm
          · rename_i hd2; exact no_lf hd2
          · cases hm
      · have := flat_heap hm; subst this; exact no_lf hB
    · cases hk
    · cases hk
  case call c => simp only [dKind] at hk; split at hk <;> cases hk
  all_goals cases hk
end
end Go.Proofs.YtklciidffdnglaaDoor
