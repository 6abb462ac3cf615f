/- The witness of a row without arguments whose listed variables are laid by the kit's function. Over any program. No condition. -/
import Derived.Test.YthdlljlcffokbaaDoorZb7
import Derived.Orders
import Derived.Test.YthdlljlcffokbaaDoorZb3
import Derived.Test.YthdlljlcffokbaaDoorProg
import Derived.KernelRfl
import Derived.Test.YthdlljlcffokbaaDoorZb1
import Derived.Deep.Slices
import Derived.Deep.Strs
import Derived.ProofKit
import Derived.OpenShut
import Derived.Test.YthdlljlcffokbaaDoorZb4
import Derived.SizedLaws
import Derived.Deep.DeepHandedRow
import Derived.Lay
namespace Go.Proofs.YthdlljlcffokbaaDoor
open Go.RowKit

section
variable {P : Program} {G : Nat} {o : Oper} {e e' : Tb Value} {h h' : Hp} {nx nx' : Nat} {v : Value} {call : CallF}
theorem evL_congr : ∀ {l : List Operand}, (∀ x ∈ l, evO G e x = evO G e' x) → evL G e l = evL G e' l
  | [], _ => rfl
  | x :: l, he => by
    show oo (evO G e x) none (fun v => oo (evL G e l) none (fun vs => some (v :: vs))) = oo (evO G e' x) none (fun v => oo (evL G e' l) none (fun vs => some (v :: vs)))
    rw [he x (by simp), evL_congr (fun y hy => he y (by simp [hy]))]
theorem evP_congr : ∀ {l : List (Nat × Operand)}, (∀ x ∈ l, evO G e x.2 = evO G e' x.2) → evP G e l = evP G e' l
  | [], _ => rfl
  | x :: l, he => by
    show oo (evO G e x.2) none (fun v => oo (evP G e l) none (fun vs => some ((x.1, v) :: vs))) = oo (evO G e' x.2) none (fun v => oo (evP G e' l) none (fun vs => some ((x.1, v) :: vs)))
    rw [he x (by simp), evP_congr (fun y hy => he y (by simp [hy]))]
theorem allFlat_congr : ∀ {l : List Operand}, (∀ x ∈ l, evO G e x = evO G e' x) → allFlat G e l = allFlat G e' l
  | [], _ => rfl
  | x :: l, he => by
    show (match evO G e x with | some v => bo (flat v) (allFlat G e l) false | none => false) = (match evO G e' x with | some v => bo (flat v) (allFlat G e' l) false | none => false)
    rw [he x (by simp), allFlat_congr (fun y hy => he y (by simp [hy]))]
theorem mFlat_congr (hsel : ∀ cs b, o.op ≠ .select cs b) (he : ∀ x ∈ o.op.operands.toList, evO G e x = evO G e' x) : mFlat P G e h nx o = mFlat P G e' h nx o := by
  unfold mFlat
  rw [allFlat_congr he, execOp_congr (ρ := fun x => (evO G e x).getD undef) (ρ' := fun x => (evO G e' x).getD undef) o hsel (fun x hx => by rw [he x (by simpa using hx)])]
theorem mBin_congr {op : BinOp} {t : TypeId} {a b : Option Value} (hf : mFlat P G e h nx o = mFlat P G e' h nx o) : mBin P G e h nx o op t a b = mBin P G e' h nx o op t a b := by
  cases a with
  | none => rfl
  | some a => cases b with
    | none => rfl
    | some b =>
      show binV a b P G e h nx o op t = binV a b P G e' h nx o op t
      cases a <;> simp only [binV, binInt, binStr, binAny, hf]
theorem mConv_congr {s d : TypeId} {a : Option Value} (hf : mFlat P G e h nx o = mFlat P G e' h nx o) : mConv P G e h nx o s d a = mConv P G e' h nx o s d a := by
  unfold mConv; simp only [hf]
theorem mBuiltin_congr {b : Builtin} {args : List Operand} {ts : List TypeId} (hf : mFlat P G e h nx o = mFlat P G e' h nx o) (he : ∀ x ∈ args, evO G e x = evO G e' x) : mBuiltin P G e h nx o b args ts = mBuiltin P G e' h nx o b args ts := by
  unfold mBuiltin
  split
  · rw [he _ (by simp)]
  · rw [he _ (by simp), he _ (by simp)]
  · rw [he _ (by simp), he _ (by simp)]
  · rw [he _ (by simp)]
  · exact hf
  · exact hf
  · rfl
theorem optmap_congr {x : Option Operand} (he : ∀ y ∈ x.toList, evO G e y = evO G e' y) : x.map (evO G e) = x.map (evO G e') := by
  cases x with
  | none => rfl
  | some y => simp [he y (by simp)]
theorem mOp_congr (he : ∀ x ∈ o.op.operands.toList, evO G e x = evO G e' x) : mOp P G call e h nx o = mOp P G call e' h nx o := by
  have hfl : (∀ cs b, o.op ≠ .select cs b) → mFlat P G e h nx o = mFlat P G e' h nx o := fun hs => mFlat_congr hs he
  rw [mOp_eq, mOp_eq]
  unfold sOp
  cases ho : o.op
  case move x => show mMove h nx (evO G e x) = mMove h nx (evO G e' x); rw [he x (by simp [ho, Op.operands])]
  case assign x => show mMove h nx (evO G e x) = mMove h nx (evO G e' x); rw [he x (by simp [ho, Op.operands])]
  case pick c x y => show mPick h nx (evO G e c) (evO G e x) (evO G e y) = _; rw [he c (by simp [ho, Op.operands]), he x (by simp [ho, Op.operands]), he y (by simp [ho, Op.operands])]; rfl
  case alloc => rfl
  case box el x => show mBox h nx el (evO G e x) = _; rw [he x (by simp [ho, Op.operands])]; rfl
  case build t ps => show mBuild P h nx t (evP G e ps.toList) = _; rw [evP_congr (fun x hx => he x.2 (by simp only [ho, Op.operands]; simp; exact ⟨x.1, by simpa using hx⟩))]; rfl
  case buildSlice t m ps => show mBuildSlice P h nx t m (evP G e ps.toList) = _; rw [evP_congr (fun x hx => he x.2 (by simp only [ho, Op.operands]; simp; exact ⟨x.1, by simpa using hx⟩))]; rfl
  case insert t m k x => show mUpdate P h nx t (evO G e m) (evO G e k) (evO G e x) = _; rw [he m (by simp [ho, Op.operands]), he k (by simp [ho, Op.operands]), he x (by simp [ho, Op.operands])]; rfl
  case load t x => show mLoad P h nx t (evO G e x) = _; rw [he x (by simp [ho, Op.operands])]; rfl
  case store t x y => show mStore P h nx t (evO G e x) (evO G e y) = _; rw [he x (by simp [ho, Op.operands]), he y (by simp [ho, Op.operands])]; rfl
  case nilCheck x => show mNil h nx (evO G e x) = _; rw [he x (by simp [ho, Op.operands])]; rfl
  case binOp op t x y t' =>
    show mBin P G e h nx o op t (evO G e x) (evO G e y) = _
    rw [he x (by simp [ho, Op.operands]), he y (by simp [ho, Op.operands])]
    exact mBin_congr (hfl (fun cs b hh => by rw [ho] at hh; cases hh))
  case unOp => exact hfl (fun cs b hh => by rw [ho] at hh; cases hh)
  case convert s d x =>
    show mConv P G e h nx o s d (evO G e x) = _
    rw [he x (by simp [ho, Op.operands])]
    exact mConv_congr (hfl (fun cs b hh => by rw [ho] at hh; cases hh))
  case sliceToArrayPointer t x => show mArr P h nx t (evO G e x) = _; rw [he x (by simp [ho, Op.operands])]; rfl
  case makeInterface t x => show mIface P h nx t (evO G e x) = _; rw [he x (by simp [ho, Op.operands])]; rfl
  case makeFunc f xs ys => show mFunc h nx f (evL G e xs.toList) (evL G e ys.toList) = _; rw [evL_congr (fun x hx => he x (by simp only [ho, Op.operands]; simp; left; simpa using hx)), evL_congr (fun x hx => he x (by simp only [ho, Op.operands]; simp; right; simpa using hx))]; rfl
  case makeMap t r => show mMakeMap P h nx t (r.map (evO G e)) = _; rw [optmap_congr (fun y hy => he y (by simp only [ho, Op.operands]; simpa using hy))]; rfl
  case makeSlice t x y => show mMakeSlice P h nx t (evO G e x) (evO G e y) = _; rw [he x (by simp [ho, Op.operands]), he y (by simp [ho, Op.operands])]; rfl
  case slice t x lo hi mx =>
    show mSlice P h nx t (evO G e x) (lo.map (evO G e)) (hi.map (evO G e)) (mx.map (evO G e)) = _
    rw [he x (by simp [ho, Op.operands]), optmap_congr (x := lo) (fun y hy => he y (by simp only [ho, Op.operands]; simp at hy; simp [hy])), optmap_congr (x := hi) (fun y hy => he y (by simp only [ho, Op.operands]; simp at hy; simp [hy])), optmap_congr (x := mx) (fun y hy => he y (by simp only [ho, Op.operands]; simp at hy; simp [hy]))]; rfl
  case fieldAddr s x f => show mFieldAddr P h nx s f (evO G e x) = _; rw [he x (by simp [ho, Op.operands])]; rfl
  case field s x f => show mField P h nx s f (evO G e x) = _; rw [he x (by simp [ho, Op.operands])]; rfl
  case indexAddr t x i => show mIndexAddr P h nx t (evO G e x) (evO G e i) = _; rw [he x (by simp [ho, Op.operands]), he i (by simp [ho, Op.operands])]; rfl
  case index t x i => show mIndex P h nx t (evO G e x) (evO G e i) = _; rw [he x (by simp [ho, Op.operands]), he i (by simp [ho, Op.operands])]; rfl
  case lookup t x i ok => show mLookup P h nx t ok (evO G e x) (evO G e i) = _; rw [he x (by simp [ho, Op.operands]), he i (by simp [ho, Op.operands])]; rfl
  case mapUpdate t m k x => show mUpdate P h nx t (evO G e m) (evO G e k) (evO G e x) = _; rw [he m (by simp [ho, Op.operands]), he k (by simp [ho, Op.operands]), he x (by simp [ho, Op.operands])]; rfl
  case range t x => show mRange P h nx t (evO G e x) = _; rw [he x (by simp [ho, Op.operands])]; rfl
  case next x b => show mNext h nx b (evO G e x) = _; rw [he x (by simp [ho, Op.operands])]; rfl
  case mapEntry t m k => show mMapEntry P h nx t (evO G e m) (evO G e k) = _; rw [he m (by simp [ho, Op.operands]), he k (by simp [ho, Op.operands])]; rfl
  case entryStore t m s x => show mEntryStore h nx (evO G e m) (evO G e s) (evO G e x) = _; rw [he m (by simp [ho, Op.operands]), he s (by simp [ho, Op.operands]), he x (by simp [ho, Op.operands])]; rfl
  case entry x => show mEntry h nx (evO G e x) = _; rw [he x (by simp [ho, Op.operands])]; rfl
  case extract x i => show mExtract h nx i (evO G e x) = _; rw [he x (by simp [ho, Op.operands])]; rfl
  case call c =>
    obtain ⟨callee, args, ts⟩ := c
    cases callee with
    | value f =>
      show mCall P call h nx (evO G e f) (evL G e args.toList) = mCall P call h nx (evO G e' f) (evL G e' args.toList)
      rw [he f (by simp [ho, Op.operands, Call.operands]), evL_congr (fun x hx => he x (by simp only [ho, Op.operands, Call.operands]; simp; right; simpa using hx))]
    | builtin b =>
      show mBuiltin P G e h nx o b args.toList ts.toList = mBuiltin P G e' h nx o b args.toList ts.toList
      exact mBuiltin_congr (hfl (fun cs b hh => by rw [ho] at hh; cases hh)) (fun x hx => he x (by simp only [ho, Op.operands, Call.operands]; simpa using hx))
    | invoke r m => rfl
  all_goals rfl
theorem mGuard_congr {ops : Array Oper} {g : Nat × Bool} (he : ∀ d, (ops[g.1]?).bind (·.dst) = some d → e.get d = e'.get d) : mGuard ops e g = mGuard ops e' g := by
  unfold mGuard
  split
  · rename_i d hd; rw [he d hd]
  · rfl

/-- The operation lays the new block B, whatever else is in memory; id: its number. -/
def FreshR (P : Program) (G : Nat) (o : Oper) (e : Tb Value) (id : Nat) (v : Value) (B : Bl) : Prop :=
  ∀ σ w ρ, OE σ G e ρ → ∃ (L : Loc) (u : Value) (w' : World), (execOp ρ o).run P w = .ok (.value u) w' ∧ L.blk = w.heap.size ∧ (w'.os = w.os ∧ w'.tape = w.tape ∧ w'.output = w.output) ∧ w'.heap.size = w.heap.size + 1 ∧ (∀ r, r < w.heap.size → w'.heap[r]? = w.heap[r]?) ∧
    ∀ σ' : Sg, σ.le σ' → σ' id = some L → BR σ' L w' B ∧ VR σ' v u
theorem BR.row {σ σ' : Sg} {w w' : World} (el : TypeId) (c : Tb Value) {cs us : List Value} {row : Array Value} {fz : Nat × Nat} (hs : σ.le σ') (hv : VRs σ cs us) (hc : ∀ i, c.get i = cs[i]?)
    (hb : w'.heap[w.heap.size]? = some (.cells row el fz)) (hrow : ∀ (i : Nat) u, us[i]? = some u → row[i]? = some u) (hle : us.length ≤ row.size) (hfz : fz.1 = fz.2 ∨ row.size ≤ fz.1) : BR σ' ⟨w.heap.size, 0, row.size⟩ w' (.cells el cs.length 0 c) :=
  ⟨row, fz, hb, rfl, by simp [hv.len, hle], fun i => by rw [hc]; simp, fun i v hi => by
    rw [hc] at hi
    obtain ⟨u, hu, hr⟩ := hv.get hi
    exact ⟨u, by rw [Nat.zero_add]; exact hrow i u hu, hr.mono hs⟩, fun _ => hfz⟩
/-- A whole new row. -/
theorem fresh_row {el : TypeId} {id : Nat} {c : Tb Value} {n : Nat} {mk : Option Addr → Value} (hmk : ∀ σ u' id (L : Loc), σ id = some L → L.base = 0 → u' = mk (some ⟨L.blk, 0, none⟩) → VR σ (mk (some ⟨id, 0, none⟩)) u')
    (hp : ∀ σ w ρ, OE σ G e ρ → ∃ cs us : List Value, VRs σ cs us ∧ cs.length = n ∧ (∀ i, c.get i = cs[i]?) ∧ (execOp ρ o).run P w = .ok (.value (mk (some ⟨w.heap.size, 0, none⟩))) (w.alloc (.cells us.toArray el))) :
    FreshR P G o e id (mk (some ⟨id, 0, none⟩)) (.cells el n 0 c) := fun σ w ρ oe => by
  obtain ⟨cs, us, hv, hn, hc, hrun⟩ := hp σ w ρ oe
  subst hn
  refine ⟨⟨w.heap.size, 0, us.toArray.size⟩, _, _, hrun, rfl, ⟨rfl, rfl, rfl⟩, by simp, fun r hr => Below.heap_alloc w _ r hr, fun σ' hs hL => ⟨?_, hmk σ' _ id _ hL rfl rfl⟩⟩
  exact BR.row el c hs hv hc (heap_alloc_new w _) (fun i u hu => by simpa using hu) (by simp) (.inl rfl)
theorem mk_ptr (σ : Sg) (u' : Value) (id : Nat) (L : Loc) (h : σ id = some L) (hb : L.base = 0) (hu : u' = .pointer (some ⟨L.blk, 0, none⟩)) : VR σ (.pointer (some ⟨id, 0, none⟩)) u' := by
  subst hu
  have := VRs.ptr (off := 0) h (VRs.nil (σ := σ))
  rw [hb] at this; exact this
theorem mk_sl (n c : Nat) (σ : Sg) (u' : Value) (id : Nat) (L : Loc) (h : σ id = some L) (hb : L.base = 0) (hu : u' = .slice (some ⟨L.blk, 0, none⟩) n c) : VR σ (.slice (some ⟨id, 0, none⟩) n c) u' := by
  subst hu
  have := VRs.sl (off := 0) (n := n) (c := c) h (VRs.nil (σ := σ))
  rw [hb] at this; exact this
theorem newB_fresh {id : Nat} {B B0 : Bl} {u : Value} (hB : h'.get id = some B) (hm : newB .lf id B0 u = .ok v h' nx') (hf : FreshR P G o e id u B0) : FreshR P G o e id v B := by
  obtain ⟨rfl, rfl, rfl⟩ := newB_inv hm
  rw [Tb.get_put_same] at hB; injection hB with hB; subst hB
  exact hf
theorem flat_heap (hm : mFlat P G e h nx o = .ok v h' nx') : h' = h := by
  obtain ⟨h1, hm⟩ := bo_inv hm (by simp)
  split at hm
  · obtain ⟨h2, hm⟩ := bo_inv hm (by simp)
    exact (ok_inj hm).2.1.symm
  · cases hm
theorem no_lf {id : Nat} {B : Bl} (hB : (Tb.lf : Hp).get id = some B) {p : Prop} : p := by rw [Tb.get_lf] at hB; cases hB
/-- 1: it lays a new block and looks at none · 2: it may change memory · 0: it only looks. -/
noncomputable def dKind (P : Program) : Op → Nat
  | .alloc _ | .box _ _ | .buildSlice _ _ _ | .makeMap _ _ | .makeSlice _ _ _ => 1
  | .convert s d _ => match P.underlying s, P.underlying d with
    | some .string, some (.slice _) => 1
    | _, some (.slice _) => 2
    | _, _ => 0
  | .store _ _ _ | .mapUpdate _ _ _ _ | .insert _ _ _ _ | .range _ _ | .next _ _ | .mapEntry _ _ _ | .entryStore _ _ _ _ => 2
  | .call c => match c.callee with
    | .builtin .len => 0
    | .builtin .min => 0
    | .builtin .max => 0
    | _ => 2
  | _ => 0
theorem fresh_ok {id : Nat} {B : Bl} (hk : dKind P o.op = 1) (hm : mOp P G call e .lf id o = .ok v h' nx') (hB : h'.get id = some B) : FreshR P G o e id v B := by
  rw [mOp_eq] at hm
  unfold sOp at hm
  cases ho : o.op <;> rw [ho] at hm hk <;> try (simp only [dKind] at hk; done)
  case alloc el =>
    have hm : mAlloc P .lf id el = .ok v h' nx' := hm
    unfold mAlloc at hm
    split at hm
    · rename_i z hz
      obtain ⟨i, hi, hiz, hfl⟩ := zeroTy_info hz
      refine newB_fresh hB hm (fresh_row (mk := fun a => .pointer a) mk_ptr fun σ w ρ oe => ⟨_, z.cells.toList, (VR.of_flat (σ := σ) hfl).cells, rfl, fun i => Tb.get_of _ i, ?_⟩)
      unfold execOp
      simp [ho, Instr.alloc, zeroValue, typeInfo, hi, hiz, newVar, newRow]
    · cases hm
  case box el x =>
    have hm : mBox .lf id el (evO G e x) = .ok v h' nx' := hm
    unfold mBox at hm
    split at hm
    · rename_i a ha
      refine newB_fresh hB hm (fresh_row (mk := fun a => .pointer a) mk_ptr fun σ w ρ oe => ⟨_, (ρ x).cells.toList, (oe x _ ha).cells, rfl, fun i => Tb.get_of _ i, ?_⟩)
      unfold execOp
      simp [ho, Instr.box, newVar, newRow]
    · cases hm
  case buildSlice t len ps =>
    have hm : mBuildSlice P .lf id t len (evP G e ps.toList) = .ok v h' nx' := hm
    unfold mBuildSlice at hm
    split at hm
    · rename_i qs hq
      split at hm
      · rename_i el s ht
        split at hm
        · rename_i z hz
          obtain ⟨hc, hm1⟩ := bo_inv hm (by simp)
          clear hm
          have hm := hm1; clear hm1
          simp only [Bool.and_eq_true] at hc
          have hzs := Nat.eq_of_beq_eq_true hc.1
          have hpos := blt_lt hc.2.1
          have hsm := Nat.le_of_ble_eq_true hc.2.2
          split at hm
          · rename_i cs hf
            obtain ⟨hu, ie, hie, hies⟩ := slEl ht
            obtain ⟨i, hi, hiz, hfl⟩ := zeroTy_info hz
            rw [hie] at hi; injection hi with hi; subst hi
            subst hies
            refine newB_fresh hB hm (fresh_row (mk := fun a => .slice a len len) (mk_sl len len) fun σ w ρ oe => ?_)
            obtain ⟨h1, h2⟩ := oe.parts hq
            have e1 : (ps.toList.map fun p => (p.1, ρ p.2)).map (·.1) = ps.toList.map (·.1) := by rw [List.map_map]; rfl
            have e2 : (ps.toList.map fun p => (p.1, ρ p.2)).map (·.2) = ps.toList.map fun p => ρ p.2 := by rw [List.map_map]; rfl
            obtain ⟨us', h3, h4⟩ := fillL_ok (σ := σ) (qs := ps.toList.map fun p => (p.1, ρ p.2)) hf (((VR.of_flat (σ := σ) hfl).cells).zeros len) (by rw [e1]; exact h1) (by rw [e2]; exact h2)
            refine ⟨cs, us', h4, rfl, fun i => Tb.get_of _ i, ?_⟩
            have hzs' : z.cells.size = ie.size := by simpa using hzs
            by_cases h0 : len = 0
            · subst h0
              have e3 : Instr.fill (fun i => some (i * ie.size, ie.size)) #[] (ps.toList.map fun p => (p.1, ρ p.2)) = some us'.toArray := h3
              unfold execOp
              simp only [ho, Instr.buildSlice, Sem.run_bind, run_underlying hu, Result.andThen_ok, sizeOf, typeInfo]
              simp [hie, e3, newRow, show Array.range 0 = #[] from rfl]
            · have hr := run_buildSlice (P := P) w t el len (ps.map fun (i, x) => (i, ρ x)) us'.toArray ie z hu hie hiz (by omega) (Nat.ne_of_gt (Nat.mul_pos (Nat.pos_of_ne_zero h0) hpos)) (by
                rw [parts_eq, ← hzs', made_eq _ _ (by omega), hzs']; exact h3)
              unfold execOp
              simp only [ho, Sem.run_bind, hr, Result.andThen_ok]
              rfl
          · cases hm
        · cases hm
      · cases hm
    · cases hm
  case makeSlice t l c =>
    have hm : mMakeSlice P .lf id t (evO G e l) (evO G e c) = .ok v h' nx' := hm
    unfold mMakeSlice at hm
    split at hm
    · rename_i n k h1 h2
      split at hm
      · rename_i el s ht
        split at hm
        · rename_i z i hz hi
          obtain ⟨hc, hm1⟩ := bo_inv hm (by simp)
          clear hm
          have hm := hm1; clear hm1
          simp only [Bool.and_eq_true] at hc
          have hzs := Nat.eq_of_beq_eq_true hc.1
          have hpos := blt_lt hc.2.1
          have hnk := Nat.le_of_ble_eq_true hc.2.2.1
          have hsm := Nat.le_of_ble_eq_true hc.2.2.2.1
          have hby := Nat.le_of_ble_eq_true hc.2.2.2.2
          obtain ⟨hu, ie, hie, hies⟩ := slEl ht
          rw [hi] at hie; injection hie with hie; subst hie
          subst hies
          obtain ⟨i', hi', hiz, hfl⟩ := zeroTy_info hz
          rw [hi] at hi'; injection hi' with hi'; subst hi'
          have hzs' : z.cells.size = i.size := by simpa using hzs
          have hlen : (zerosN z.cells.toList k).length = k * i.size := by rw [zerosN_length]; simp [hzs']
          refine newB_fresh hB hm (fresh_row (mk := fun a => .slice a n k) (mk_sl n k) fun σ w ρ oe => ⟨zerosN z.cells.toList k, zerosN z.cells.toList k, ((VR.of_flat (σ := σ) hfl).cells).zeros k, hlen, fun j => ?_, ?_⟩)
          · split
            · rename_i x hx
              rw [Tb.get_repN, hx]
              have : ∀ n, zerosN [x] n = List.replicate n x := fun n => by
                induction n with
                | zero => rfl
                | succ n ih => rw [zerosN_succ, ih]; rfl
              rw [this]
            · rw [Tb.get_of]
          · have hbytes : (i.bytes : Int) * (k : Int) ≤ 281474976710656 := by
              have : i.bytes * k ≤ 16777216 * 16777216 := Nat.mul_le_mul hby hsm
              have h9 : ((i.bytes * k : Nat) : Int) ≤ ((16777216 * 16777216 : Nat) : Int) := Int.ofNat_le.2 this
              simpa using h9
            have hrun := run_make (P := P) w t el i z hu hi hiz .i64 .i64 (n : Int) (k : Int) (by omega) (by omega) hbytes (by omega)
            have hmade : madeCells z.cells ((k : Int).toNat * i.size) = (zerosN z.cells.toList k).toArray := by
              rw [← hzs']; exact made_eq z.cells k (by omega)
            rw [hmade] at hrun
            have hl := (oe l _ h1).scal_inv rfl
            have hcc := (oe c _ h2).scal_inv rfl
            unfold execOp
            simp only [ho, hl, hcc, Sem.run_bind]
            have e1 : Int.ofNat n = (n : Int) := rfl
            have e2 : Int.ofNat k = (k : Int) := rfl
            rw [e1, e2, hrun]
            rfl
        · cases hm
      · cases hm
    · cases hm
  case makeMap t r =>
    replace hm : mMakeMap P .lf id t (r.map (evO G e)) = .ok v h' nx' := hm
    have fin : ∀ (run : ∀ σ w ρ, OE σ G e ρ → (execOp ρ o).run P w = .ok (.value (.map (some w.heap.size))) (w.alloc (.map #[] 0))), FreshR P G o e id (.map (some id)) (.map 0 [] []) := fun run σ w ρ oe =>
      ⟨⟨w.heap.size, 0, 0⟩, _, _, run σ w ρ oe, rfl, ⟨rfl, rfl, rfl⟩, by simp, fun r hr => Below.heap_alloc w _ r hr, fun σ' _ hL => ⟨⟨#[], heap_alloc_new w _, .nil, .nil, rfl⟩, .map (L := ⟨w.heap.size, 0, 0⟩) hL .nil⟩⟩
    unfold mMakeMap at hm
    split at hm
    · rename_i hr
      obtain rfl := map_nil hr
      refine newB_fresh hB hm (fin fun σ w ρ oe => ?_)
      unfold execOp
      simp [ho, Instr.makeMap]
    · rename_i k n hr
      split at hm
      · rename_i kt el hu
        refine newB_fresh hB hm (fin fun σ w ρ oe => ?_)
        cases r with
        | none => cases hr
        | some x =>
          simp only [Option.map_some, Option.some.injEq] at hr
          have hx := (oe x _ hr).scal_inv rfl
          unfold execOp
          simp [ho, hx, Instr.makeMap, run_underlying hu, asInt, asIntOf]
      · cases hm
    · cases hm
  case convert s d x =>
    have hm : mConv P G e .lf id o s d (evO G e x) = .ok v h' nx' := hm
    simp only [dKind] at hk
    split at hk
    · rename_i el hs hd
      unfold mConv at hm
      rw [hd, hs] at hm
      split at hm
      · have := flat_heap hm; subst this; exact no_lf hB
      · rename_i b h1
        simp only at hm
        split at hm
        · rename_i hel
          refine newB_fresh hB hm fun σ w ρ oe => ?_
          have hx := (oe x _ h1).scal_inv rfl
          have hrun := Lib.run_convert_string_bytes (P := P) w s d el b hs hd hel
          have hsz : b.size = b.data.toList.length := by obtain ⟨dd⟩ := b; rfl
          have hge := grownCap_ge w b.size 0 el
          have hcs : (Lib.bytesCells w el b).size = grownCap w b.size 0 el := by
            unfold Lib.bytesCells
            rw [Array.size_append, Array.size_map, Array.size_replicate]
            have : b.data.size = b.size := by obtain ⟨dd⟩ := b; rfl
            omega
          refine ⟨⟨w.heap.size, 0, (Lib.bytesCells w el b).size⟩, .slice (some ⟨w.heap.size, 0, none⟩) b.size (grownCap w b.size 0 el), Lib.bytesWorld w el b, by unfold execOp; simp only [ho, hx, Sem.run_bind, hrun, Result.andThen_ok]; rfl, rfl, ⟨rfl, rfl, rfl⟩, Lib.bytesWorld_size w el b, fun r hr => Lib.bytesWorld_at_old w el b r hr, fun σ' hs' hL => ⟨?_, ?_⟩⟩
          · have := BR.row (σ := σ) (σ' := σ') (w := w) (w' := Lib.bytesWorld w el b) (cs := b.data.toList.map fun x => Value.int .u8 (.ofNat x.toNat)) (us := b.data.toList.map fun x => Value.int .u8 (.ofNat x.toNat)) el (Tb.of (b.data.toList.map fun x => Value.int .u8 (.ofNat x.toNat))) hs'
              (VRs.of_get rfl fun i x hx => ⟨x, hx, by
                obtain ⟨y, _, rfl⟩ := List.mem_map.1 (List.mem_of_getElem? hx)
                exact VR.int⟩) (fun i => Tb.get_of _ i) (Lib.bytesWorld_at_new w el b) (fun i u hu => by
                have hi := (List.getElem?_eq_some_iff.1 hu).1
                rw [List.length_map] at hi
                unfold Lib.bytesCells
                rw [Array.getElem?_append_left (by rw [Array.size_map]; simpa using hi)]
                rw [List.getElem?_map] at hu
                simpa using hu) (by rw [List.length_map, hcs, ← hsz]; exact hge) (.inr (Nat.le_refl _))
            rw [List.length_map] at this
            exact this
          · rw [← hsz]
            exact .slo (L := ⟨w.heap.size, 0, (Lib.bytesCells w el b).size⟩) hL hge (by simp [hcs]) .nil
        · cases hm
      · split at hm
        · rename_i hd2; cases hd2
        · cases hm
      · split at hm
        · split at hm
          · split at hm
            · obtain ⟨_, hm⟩ := bo_inv hm (by simp)
              have := (ok_inj hm).2.1; subst this; exact no_lf hB
            · cases hm
          · cases hm
        · split at hm
          · rename_i hd2; exact no_lf hd2
          · cases hm
      · have := flat_heap hm; subst this; exact no_lf hB
    · cases hk
    · cases hk
  case call c => simp only [dKind] at hk; split at hk <;> cases hk
  all_goals cases hk
end
end Go.Proofs.YthdlljlcffokbaaDoor
namespace Go.Proofs.YthdlljlcffokbaaDoor
open Go.RowKit

/-- Two values are one. -/
noncomputable def onEq : Option Nat → Option Nat → Bool
  | none, none => true
  | some a, some b => Nat.beq a b
  | _, _ => false
noncomputable def oaEq : Option Addr → Option Addr → Bool
  | none, none => true
  | some ⟨a, i, s⟩, some ⟨b, j, t⟩ => bo (Nat.beq a b) (bo (Nat.beq i j) (onEq s t) false) false
  | _, _ => false
noncomputable def veq1 (ih : List Value → List Value → Bool) : Value → Value → Bool
  | .bool a, .bool b => a == b
  | .int k a, .int k' b => bo (Nat.beq (ikn k) (ikn k')) (iEq a b) false
  | .string a, .string b => byEq a.data.toList b.data.toList
  | .pointer a, .pointer b => oaEq a b
  | .slice a n c, .slice b m d => bo (oaEq a b) (bo (Nat.beq n m) (Nat.beq c d) false) false
  | .map a, .map b => onEq a b
  | .nilFunc, .nilFunc => true
  | .nilIface, .nilIface => true
  | .agg ⟨a⟩, .agg ⟨b⟩ => ih a b
  | .tuple ⟨a⟩, .tuple ⟨b⟩ => ih a b
  | .iface t a, .iface u b => bo (Nat.beq t u) (ih [a] [b]) false
  | .func (.func f) ⟨a⟩ ⟨b⟩, .func (.func g) ⟨c⟩ ⟨d⟩ => bo (Nat.beq f g) (bo (ih a c) (ih b d) false) false
  | _, _ => false
noncomputable def veqL (ih : List Value → List Value → Bool) : List Value → List Value → Bool
  | [], [] => true
  | x :: xs, y :: ys => bo (veq1 ih x y) (ih xs ys) false
  | _, _ => false
noncomputable def veqN (n : Nat) : List Value → List Value → Bool :=
  @Nat.rec (fun _ => List Value → List Value → Bool) (fun _ _ => false) (fun _ ih => veqL ih) n
theorem onEq_ok {a b : Option Nat} (h : onEq a b = true) : a = b := by
  unfold onEq at h
  split at h
  · rfl
  · rw [Nat.eq_of_beq_eq_true h]
  · cases h
theorem oaEq_ok {a b : Option Addr} (h : oaEq a b = true) : a = b := by
  unfold oaEq at h
  split at h
  · rfl
  · obtain ⟨h1, h⟩ := bo_inv h (by simp)
    obtain ⟨h2, h⟩ := bo_inv h (by simp)
    rw [Nat.eq_of_beq_eq_true h1, Nat.eq_of_beq_eq_true h2, onEq_ok h]
  · cases h
theorem veq1_ok {ih : List Value → List Value → Bool} (hih : ∀ xs ys, ih xs ys = true → xs = ys) {x y : Value} (h : veq1 ih x y = true) : x = y := by
  unfold veq1 at h
  split at h
  · rw [eq_of_beq h]
  · obtain ⟨h1, h⟩ := bo_inv h (by simp)
    rw [iEq_ok] at h
    rw [ikn_inj h1, eq_of_beq h]
  · rename_i a b
    rw [byEq_ok] at h
    have : a.data.toList = b.data.toList := eq_of_beq h
    obtain ⟨⟨d⟩⟩ := a; obtain ⟨⟨d'⟩⟩ := b
    simp only at this; subst this; rfl
  · rw [oaEq_ok h]
  · obtain ⟨h1, h⟩ := bo_inv h (by simp)
    obtain ⟨h2, h⟩ := bo_inv h (by simp)
    rw [oaEq_ok h1, Nat.eq_of_beq_eq_true h2, Nat.eq_of_beq_eq_true h]
  · rw [onEq_ok h]
  · rfl
  · rfl
  · rw [hih _ _ h]
  · rw [hih _ _ h]
  · obtain ⟨h1, h⟩ := bo_inv h (by simp)
    have := hih _ _ h
    injection this with this
    rw [Nat.eq_of_beq_eq_true h1, this]
  · obtain ⟨h1, h⟩ := bo_inv h (by simp)
    obtain ⟨h2, h⟩ := bo_inv h (by simp)
    rw [Nat.eq_of_beq_eq_true h1, hih _ _ h2, hih _ _ h]
  · cases h
theorem veqN_ok : ∀ (n : Nat) (xs ys : List Value), veqN n xs ys = true → xs = ys
  | 0, _, _, h => by cases h
  | n + 1, xs, ys, h => by
    have h : veqL (veqN n) xs ys = true := h
    unfold veqL at h
    split at h
    · rfl
    · obtain ⟨h1, h⟩ := bo_inv h (by simp)
      rw [veq1_ok (veqN_ok n) h1, veqN_ok n _ _ h]
    · cases h
noncomputable def veq (a b : Value) : Bool := veqN 100000 [a] [b]
theorem veq_ok {a b : Value} (h : veq a b = true) : a = b := by
  have := veqN_ok _ _ _ h
  injection this

/-- A bit. -/
noncomputable def tb (m j : Nat) : Bool := Nat.beq (Nat.mod (Nat.div m (Nat.pow 2 j)) 2) 1
theorem tb_test (m j : Nat) : tb m j = m.testBit j := by
  unfold tb
  rw [Nat.testBit_eq_decide_div_mod_eq]
  have e : Nat.mod (Nat.div m (Nat.pow 2 j)) 2 = m / 2 ^ j % 2 := rfl
  rw [e]
  cases hb : Nat.beq (m / 2 ^ j % 2) 1 with
  | true => have := Nat.eq_of_beq_eq_true hb; simp [this]
  | false => have : m / 2 ^ j % 2 ≠ 1 := fun e => by rw [e] at hb; simp at hb
             simp [this]
theorem tb_lor (a b j : Nat) : tb (Nat.lor a b) j = (tb a j || tb b j) := by
  rw [tb_test, tb_test, tb_test]
  exact Nat.testBit_or a b j
theorem tb_pow (i j : Nat) : tb (Nat.pow 2 i) j = decide (i = j) := by
  rw [tb_test]; exact Nat.testBit_two_pow
theorem tb_zero (j : Nat) : tb 0 j = false := by rw [tb_test]; simp
/-- What an operation waits for, through others too. -/
noncomputable def maskE (acc : List Nat) (es : List Edge) : Nat :=
  @List.rec Edge (fun _ => Nat) 0 (fun ed _ ih => bo (Region.binds .any ed) (Nat.lor (Nat.lor (Nat.pow 2 ed.on) ((acc[ed.on]?).getD 0)) ih) ih) es
theorem maskE_bit {acc : List Nat} {j : Nat} : ∀ {es : List Edge}, tb (maskE acc es) j = true → ∃ ed ∈ es, Region.binds .any ed = true ∧ (ed.on = j ∨ ∃ m, acc[ed.on]? = some m ∧ tb m j = true)
  | [], h => by rw [show maskE acc [] = 0 from rfl, tb_zero] at h; cases h
  | ed :: es, h => by
    have h : tb (bo (Region.binds .any ed) (Nat.lor (Nat.lor (Nat.pow 2 ed.on) ((acc[ed.on]?).getD 0)) (maskE acc es)) (maskE acc es)) j = true := h
    cases hb : Region.binds .any ed with
    | false =>
      rw [hb, bo_false] at h
      obtain ⟨ed', h1, h2⟩ := maskE_bit h
      exact ⟨ed', by simp [h1], h2⟩
    | true =>
      rw [hb, bo_true, tb_lor, tb_lor, tb_pow, Bool.or_eq_true, Bool.or_eq_true, decide_eq_true_eq] at h
      rcases h with (h | h) | h
      · exact ⟨ed, by simp, hb, .inl h⟩
      · cases hq : acc[ed.on]? with
        | none => rw [hq, Option.getD_none, tb_zero] at h; cases h
        | some m => rw [hq, Option.getD_some] at h; exact ⟨ed, by simp, hb, .inr ⟨m, hq, h⟩⟩
      · obtain ⟨ed', h1, h2⟩ := maskE_bit h
        exact ⟨ed', by simp [h1], h2⟩
/-- The masks of a region's operations. -/
noncomputable def masks (l : List Oper) : List Nat → List Nat :=
  @List.rec Oper (fun _ => List Nat → List Nat) (fun acc => acc) (fun o _ ih acc => ih (acc ++ [maskE acc o.after.toList])) l
theorem masks_cons (o : Oper) (l : List Oper) (acc : List Nat) : masks (o :: l) acc = masks l (acc ++ [maskE acc o.after.toList]) := rfl
theorem masks_pre : ∀ (l : List Oper) (acc : List Nat) (i : Nat), i < acc.length → (masks l acc)[i]? = acc[i]?
  | [], acc, i, _ => rfl
  | o :: l, acc, i, h => by
    rw [masks_cons, masks_pre l _ i (by simp; omega), List.getElem?_append_left h]
theorem masks_get : ∀ (l : List Oper) (acc : List Nat) (i : Nat) (o : Oper), l[i]? = some o → ∃ acc', (∀ j, acc'[j]? = if j < acc.length + i then (masks l acc)[j]? else none) ∧ (masks l acc)[acc.length + i]? = some (maskE acc' o.after.toList)
  | [], _, _, _, h => by simp at h
  | o' :: l, acc, 0, o, h => by
    simp only [List.getElem?_cons_zero, Option.some.injEq] at h
    subst h
    refine ⟨acc, fun j => ?_, ?_⟩
    · by_cases hj : j < acc.length
      · rw [if_pos (by omega), masks_pre _ _ _ hj]
      · rw [if_neg (by omega), List.getElem?_eq_none (by omega)]
    · rw [masks_cons, masks_pre _ _ _ (by simp), List.getElem?_append_right (by omega)]; simp
  | o' :: l, acc, i + 1, o, h => by
    obtain ⟨acc', h1, h2⟩ := masks_get l (acc ++ [maskE acc o'.after.toList]) i o (by simpa using h)
    rw [List.length_append, List.length_singleton] at h1 h2
    refine ⟨acc', fun j => ?_, ?_⟩
    · rw [masks_cons, h1 j]
      by_cases hj : j < acc.length + 1 + i
      · rw [if_pos hj, if_pos (by omega)]
      · rw [if_neg hj, if_neg (by omega)]
    · rw [masks_cons, show acc.length + (i + 1) = acc.length + 1 + i by omega]; exact h2
/-- The memory behind so many of the operations that change it. lo: the last of them; mt: whose blocks are in it. -/
structure Snap where
  h : Hp
  nx : Nat
  mt : Nat
  lo : Option Nat
structure Live where
  i : Nat
  m : Nat
  o : Oper
  e : Tb Value
  F : List (Nat × Bl)
  v : Value
structure DSt where
  e : Tb Value
  F : List (Nat × Bl)
  cur : Snap
  old : List Snap
  lv : List Live
  ld : List Nat
  v : Value
  kd : Nat
/-- The memory that an operation may lean on. -/
noncomputable def dH (nx0 m : Nat) (F : List (Nat × Bl)) (sn : Snap) : Hp :=
  @List.rec (Nat × Bl) (fun _ => Hp) sn.h (fun p _ ih => bo (tb m p.1) (bo (tb sn.mt p.1) ih (ih.put (nx0 + p.1) p.2)) ih) F
noncomputable def dHall (nx0 : Nat) (F : List (Nat × Bl)) (sn : Snap) : Hp :=
  @List.rec (Nat × Bl) (fun _ => Hp) sn.h (fun p _ ih => bo (tb sn.mt p.1) ih (ih.put (nx0 + p.1) p.2)) F
theorem dH_get {nx0 m : Nat} {sn : Snap} {id : Nat} {B : Bl} : ∀ {F : List (Nat × Bl)}, (dH nx0 m F sn).get id = some B → sn.h.get id = some B ∨ ∃ j, (j, B) ∈ F ∧ id = nx0 + j ∧ tb m j = true ∧ tb sn.mt j = false
  | [], h => .inl h
  | p :: F, h => by
    have h : (bo (tb m p.1) (bo (tb sn.mt p.1) (dH nx0 m F sn) ((dH nx0 m F sn).put (nx0 + p.1) p.2)) (dH nx0 m F sn)).get id = some B := h
    have rec_ : (dH nx0 m F sn).get id = some B → sn.h.get id = some B ∨ ∃ j, (j, B) ∈ p :: F ∧ id = nx0 + j ∧ tb m j = true ∧ tb sn.mt j = false := fun h => by
      rcases dH_get h with h | ⟨j, h1, h2⟩
      · exact .inl h
      · exact .inr ⟨j, by simp [h1], h2⟩
    cases h1 : tb m p.1 with
    | false => rw [h1, bo_false] at h; exact rec_ h
    | true =>
      rw [h1, bo_true] at h
      cases h2 : tb sn.mt p.1 with
      | true => rw [h2, bo_true] at h; exact rec_ h
      | false =>
        rw [h2, bo_false, Tb.get_put] at h
        by_cases hid : id = nx0 + p.1
        · rw [if_pos hid] at h; injection h with h; subst h
          exact .inr ⟨p.1, by simp, hid, h1, h2⟩
        · rw [if_neg hid] at h; exact rec_ h
theorem dHall_get {nx0 : Nat} {sn : Snap} {id : Nat} {B : Bl} : ∀ {F : List (Nat × Bl)}, (dHall nx0 F sn).get id = some B → sn.h.get id = some B ∨ ∃ j, (j, B) ∈ F ∧ id = nx0 + j ∧ tb sn.mt j = false
  | [], h => .inl h
  | p :: F, h => by
    have h : (bo (tb sn.mt p.1) (dHall nx0 F sn) ((dHall nx0 F sn).put (nx0 + p.1) p.2)).get id = some B := h
    have rec_ : (dHall nx0 F sn).get id = some B → sn.h.get id = some B ∨ ∃ j, (j, B) ∈ p :: F ∧ id = nx0 + j ∧ tb sn.mt j = false := fun h => by
      rcases dHall_get h with h | ⟨j, h1, h2⟩
      · exact .inl h
      · exact .inr ⟨j, by simp [h1], h2⟩
    cases h2 : tb sn.mt p.1 with
    | true => rw [h2, bo_true] at h; exact rec_ h
    | false =>
      rw [h2, bo_false, Tb.get_put] at h
      by_cases hid : id = nx0 + p.1
      · rw [if_pos hid] at h; injection h with h; subst h
        exact .inr ⟨p.1, by simp, hid, h2⟩
      · rw [if_neg hid] at h; exact rec_ h
section
variable (P : Program) (G n : Nat) (call : CallF) (ops : Array Oper) (nx0 : Nat)
/-- The same value comes out there too. -/
noncomputable def dChk (m : Nat) (o : Oper) (e : Tb Value) (F : List (Nat × Bl)) (v : Value) (sn : Snap) : Bool :=
  @OR.rec (fun _ => Bool) false (fun u _ _ => veq u v) (mOp P G call e (dH nx0 m F sn) sn.nx o)
noncomputable def dBack (m : Nat) (o : Oper) (e : Tb Value) (F : List (Nat × Bl)) (v : Value) (old : List Snap) : Snap → Bool :=
  @List.rec Snap (fun _ => Snap → Bool) (fun cur => oo cur.lo true (fun e0 => tb m e0)) (fun p _ ih cur => oo cur.lo true (fun e0 => bo (tb m e0) true (bo (dChk P G call nx0 m o e F v p) (ih p) false))) old
noncomputable def dGuard (e : Tb Value) (o : Oper) : Option Bool := oo o.guard (some true) (fun g => mGuard ops e g)
noncomputable def dStill (i m : Nat) (o : Oper) (s : DSt) : Option DSt :=
  match mOp P G call s.e (dH nx0 m s.F s.cur) s.cur.nx o with
  | .ok v _ _ => bo (dBack P G call nx0 m o s.e s.F v s.old s.cur) (oo (mPut n s.e o.dst v) none (fun e' => some ⟨e', s.F, s.cur, s.old, ⟨i, m, o, s.e, s.F, v⟩ :: s.lv, s.ld, v, 0⟩)) none
  | .bad => none
noncomputable def dFresh (i : Nat) (o : Oper) (s : DSt) : Option DSt :=
  match mOp P G call s.e .lf (nx0 + i) o with
  | .ok v h' _ => oo (h'.get (nx0 + i)) none (fun B => oo (mPut n s.e o.dst v) none (fun e' => some ⟨e', (i, B) :: s.F, s.cur, s.old, s.lv, s.ld, v, 1⟩))
  | .bad => none
noncomputable def dLoud (i m : Nat) (o : Oper) (s : DSt) : Option DSt :=
  match mOp P G call s.e (dH nx0 m s.F s.cur) s.cur.nx o with
  | .ok v h' nx' => bo (s.ld.all (tb m ·) && s.lv.all (fun l => tb m l.i || dChk P G call nx0 l.m l.o l.e l.F l.v ⟨h', nx', Nat.lor s.cur.mt m, some i⟩))
      (oo (mPut n s.e o.dst v) none (fun e' => some ⟨e', s.F, ⟨h', nx', Nat.lor s.cur.mt m, some i⟩, s.cur :: s.old, s.lv.filter (fun l => !tb m l.i), i :: s.ld, v, 2⟩)) none
  | .bad => none
noncomputable def dStep (i m : Nat) (o : Oper) (s : DSt) : Option DSt :=
  match dGuard ops s.e o with
  | some false => oo (mPut n s.e o.dst undef) none (fun e' => some ⟨e', s.F, s.cur, s.old, s.lv, s.ld, undef, 3⟩)
  | some true => match dKind P o.op with
    | 0 => dStill P G n call nx0 i m o s
    | 1 => dFresh P G n call nx0 i o s
    | _ => dLoud P G n call nx0 i m o s
  | none => none
noncomputable def dGo (l : List (Oper × Nat)) : Nat → DSt → Option DSt :=
  @List.rec (Oper × Nat) (fun _ => Nat → DSt → Option DSt) (fun _ s => some s) (fun p _ ih i s => oo (dStep P G n call ops nx0 i p.2 p.1 s) none (fun s' => ih (i + 1) s')) l
/-- The slots that an operation looks at, as bits. -/
noncomputable def lkm (l : List Nat) : Nat := @List.rec Nat (fun _ => Nat) 0 (fun t _ ih => Nat.lor (Nat.pow 2 t) ih) l
noncomputable def dApart (d1 d2 : Option Nat) (k1 k2 : Nat) (ord : Bool) : Bool :=
  match d1, d2 with
  | some a, some b => bo (Nat.beq a b) false (bo ord true (bo (tb k2 a) false (bo (tb k1 b) false true)))
  | some a, none => bo ord true (bo (tb k2 a) false true)
  | none, some b => bo ord true (bo (tb k1 b) false true)
  | none, none => true
noncomputable def dStatO (prev : List (Nat × Option Nat × Nat)) (m k : Nat) (d : Option Nat) : Bool := prev.all (fun p => dApart p.2.1 d p.2.2 k (tb m p.1))
noncomputable def dStat (l : List (Oper × Nat)) : Nat → List (Nat × Option Nat × Nat) → Bool :=
  @List.rec (Oper × Nat) (fun _ => Nat → List (Nat × Option Nat × Nat) → Bool) (fun _ _ => true) (fun p _ ih i prev =>
    bo (p.1.after.toList.all (fun ed => !Region.binds .any ed || Nat.blt ed.on i)) (bo (dStatO prev p.2 (lkm (p.1.looksAt ops)) p.1.dst) (ih (i + 1) ((i, p.1.dst, lkm (p.1.looksAt ops)) :: prev)) false) false) l
/-- A region that draws its order. -/
noncomputable def mDraw (e : Tb Value) (h : Hp) (nx : Nat) : Out :=
  bo (dStat ops (ops.toList.zip (masks ops.toList [])) 0 []) (oo (dGo P G n call ops nx (ops.toList.zip (masks ops.toList [])) 0 ⟨e, [], ⟨h, nx + ops.toList.length, 0, none⟩, [], [], [], undef, 3⟩) .bad (fun s => .nrm s.e (dHall nx s.F s.cur) s.cur.nx)) .bad
end
end Go.Proofs.YthdlljlcffokbaaDoor
namespace Go.Proofs.YthdlljlcffokbaaDoor
open Go.RowKit

/-- A step in a part of the memory is a step in the whole. -/
theorem Tr.frame {G : Nat} {σ σ' : Sg} {D hs h' : Hf} {nx nx' : Nat} {w w' : World} (t : Tr G σ D nx w σ' h' nx' w') (m : MR G σ hs nx w) (hD : ∀ id B, D id = some B → hs id = some B) :
    Tr G σ hs nx w σ' (fun id => if (h' id).isSome = true then h' id else if (D id).isSome = true then none else hs id) nx' w' := by
  have hDs : ∀ id, (D id).isSome = true → (hs id).isSome = true := fun id hd => by
    obtain ⟨B, hB⟩ := Option.isSome_iff_exists.1 hd
    rw [hD id B hB]; rfl
  have rest : ∀ id B, ¬ (h' id).isSome = true → (if (D id).isSome = true then none else hs id) = some B → (D id).isSome = false ∧ hs id = some B := fun id B _ hb => by
    cases hq : (D id).isSome with
    | true => rw [hq, if_pos rfl] at hb; cases hb
    | false => rw [hq, if_neg (by simp)] at hb; exact ⟨rfl, hb⟩
  have apart : ∀ id L L2 B, (D id).isSome = false → hs id = some B → σ id = some L → ∀ id2, (D id2).isSome = true → σ id2 = some L2 → L2.blk ≠ L.blk := fun id L L2 B h1 h2 h3 id2 h4 h5 h6 => by
    have := m.sep id2 id L2 L (hDs id2 h4) (by rw [h2]; rfl) h5 h3 h6
    rw [this, h1] at h4; cases h4
  have keepb : ∀ id L B, (D id).isSome = false → hs id = some B → σ id = some L → BR σ L w B → w'.heap[L.blk]? = w.heap[L.blk]? := fun id L B h1 h2 h3 h4 =>
    t.fr L.blk h4.lt (fun id2 L2 h5 h6 => apart id L L2 B h1 h2 h3 id2 h5 h6)
  have cross : ∀ id id' L L', (h' id).isSome = true → (D id').isSome = false → (hs id').isSome = true → σ' id = some L → σ' id' = some L' → L.blk ≠ L'.blk := fun id id' L L' h1 h2 h3 h4 h5 h6 => by
    obtain ⟨B, hB⟩ := Option.isSome_iff_exists.1 h3
    obtain ⟨L1, h7, h8⟩ := m.blk id' B hB
    have := t.ext id' L1 h7
    rw [h5] at this; injection this with this; subst this
    rcases t.src id L h1 h4 with h9 | ⟨id0, L0, h9, h10, h11⟩
    · have := h8.lt; omega
    · exact apart id' L' L0 B h2 hB h7 id0 h9 h10 (h11.trans h6)
  refine ⟨t.le, t.ext, t.old, ⟨fun id B hb => ?_, fun id id' L L' h1 h2 h3 h4 h5 => ?_, t.mr.free, t.mr.glob, t.mr.gle⟩, t.os, t.tape, t.output, t.size, fun r hr hn => t.fr r hr (fun id L h1 h2 => hn id L (hDs id h1) h2), fun id L hi hs' => ?_, fun id hi hn => ?_, fun r hr hq => ?_⟩
  · by_cases hc : (h' id).isSome = true
    · rw [if_pos hc] at hb; exact t.mr.blk id B hb
    · rw [if_neg hc] at hb
      obtain ⟨h1, h2⟩ := rest id B hc hb
      obtain ⟨L, h3, h4⟩ := m.blk id B h2
      exact ⟨L, t.ext id L h3, h4.keep t.ext (keepb id L B h1 h2 h3 h4)⟩
  · by_cases hc : (h' id).isSome = true <;> by_cases hc' : (h' id').isSome = true
    · exact t.mr.sep id id' L L' hc hc' h3 h4 h5
    · rw [if_neg hc'] at h2
      obtain ⟨B, hB⟩ := Option.isSome_iff_exists.1 h2
      obtain ⟨h6, h7⟩ := rest id' B hc' hB
      exact absurd h5 (cross id id' L L' hc h6 (by rw [h7]; rfl) h3 h4)
    · rw [if_neg hc] at h1
      obtain ⟨B, hB⟩ := Option.isSome_iff_exists.1 h1
      obtain ⟨h6, h7⟩ := rest id B hc hB
      exact absurd h5.symm (cross id' id L' L hc' h6 (by rw [h7]; rfl) h4 h3)
    · rw [if_neg hc] at h1; rw [if_neg hc'] at h2
      obtain ⟨B, hB⟩ := Option.isSome_iff_exists.1 h1
      obtain ⟨h6, h7⟩ := rest id B hc hB
      obtain ⟨B', hB'⟩ := Option.isSome_iff_exists.1 h2
      obtain ⟨h8, h9⟩ := rest id' B' hc' hB'
      obtain ⟨L1, g1, g2⟩ := m.blk id B h7
      obtain ⟨L2, g3, g4⟩ := m.blk id' B' h9
      have e1 := t.ext id L1 g1; rw [h3] at e1; injection e1 with e1; subst e1
      have e2 := t.ext id' L2 g3; rw [h4] at e2; injection e2 with e2; subst e2
      exact m.sep id id' L L' (by rw [h7]; rfl) (by rw [h9]; rfl) g1 g3 h5
  · by_cases hc : (h' id).isSome = true
    · rcases t.src id L hc hs' with h9 | ⟨id0, L0, h9, h10, h11⟩
      · exact .inl h9
      · exact .inr ⟨id0, L0, hDs id0 h9, h10, h11⟩
    · rw [if_neg hc] at hi
      obtain ⟨B, hB⟩ := Option.isSome_iff_exists.1 hi
      obtain ⟨h6, h7⟩ := rest id B hc hB
      obtain ⟨L1, g1, g2⟩ := m.blk id B h7
      have e1 := t.ext id L1 g1; rw [hs'] at e1; injection e1 with e1; subst e1
      exact .inr ⟨id, L, by rw [h7]; rfl, g1, rfl⟩
  · have hd : D id = none := by
      cases hq : D id with
      | none => rfl
      | some B => rw [hD id B hq] at hn; cases hn
    rw [t.dom id hi hd]
    simp [hd, hn]
  · obtain ⟨g1, g2⟩ := t.qt r hr (fun id L B h1 h2 h3 => hq id L B (hD id B h1) h2 h3)
    refine ⟨g1, fun id L B (h1 : (if (h' id).isSome = true then h' id else if (D id).isSome = true then none else hs id) = some B) h2 h3 => ?_⟩
    by_cases hc : (h' id).isSome = true
    · rw [if_pos hc] at h1; exact g2 id L B h1 h2 h3
    · rw [if_neg hc] at h1
      obtain ⟨h6, h7⟩ := rest id B hc h1
      obtain ⟨L1, g3, g4⟩ := m.blk id B h7
      have e1 := t.ext id L1 g3; rw [h2] at e1; injection e1 with e1; subst e1
      exact hq id L B h7 g3 h3
/-- A new block, with a number that was kept for it. -/
theorem Tr.fresh {G : Nat} {σ0 σ : Sg} {h0 hs : Hf} {nx0 nx : Nat} {w0 w w' : World} (t : Tr G σ0 h0 nx0 w0 σ hs nx w) {k : Nat} (hk : σ k = none) (h1 : nx0 ≤ k) (h2 : k < nx) (L : Loc) (B : Bl) (hL : L.blk = w.heap.size)
    (hrest : w'.os = w.os ∧ w'.tape = w.tape ∧ w'.output = w.output) (hsize : w'.heap.size = w.heap.size + 1) (hold : ∀ r, r < w.heap.size → w'.heap[r]? = w.heap[r]?) (hbr : ∀ σ' : Sg, σ.le σ' → σ' k = some L → BR σ' L w' B) :
    Tr G σ0 h0 nx0 w0 (fun i => if i = k then some L else σ i) (fun i => if i = k then some B else hs i) nx w' := by
  have hle : σ.le (fun i => if i = k then some L else σ i) := fun i L' hi => by
    by_cases e : i = k
    · subst e; rw [hk] at hi; cases hi
    · simp only [if_neg e]; exact hi
  have hlt : ∀ i B' L', hs i = some B' → σ i = some L' → L'.blk < w.heap.size := fun i B' L' h1 h2 => by
    obtain ⟨L1, h3, h4⟩ := t.mr.blk i B' h1
    rw [h2] at h3; injection h3 with h3; subst h3
    exact h4.lt
  have hG : G ≤ nx0 ∨ True := .inr trivial
  refine ⟨t.le, t.ext.trans hle, fun i hi => by rw [if_neg (by omega)]; exact t.old i hi, ⟨fun i B' hi => ?_, fun i i' L1 L2 h3 h4 h5 h6 h7 => ?_, fun i hi => ?_, fun g hg => ?_, t.mr.gle⟩, hrest.1.trans t.os, hrest.2.1.trans t.tape, hrest.2.2.trans t.output, by have := t.size; omega, fun r hr hn => ?_, fun i L' hi hs' => ?_, fun i hi hn => ?_, fun r hr hq => ?_⟩
  · by_cases e : i = k
    · rw [if_pos e] at hi; injection hi with hi; subst hi
      exact ⟨L, by rw [if_pos e], hbr _ hle (by rw [if_pos rfl])⟩
    · rw [if_neg e] at hi
      obtain ⟨L1, h3, h4⟩ := t.mr.blk i B' hi
      exact ⟨L1, by rw [if_neg e]; exact h3, h4.keep hle (hold _ h4.lt)⟩
  · by_cases e : i = k <;> by_cases e' : i' = k
    · rw [e, e']
    · rw [if_pos e] at h5; injection h5 with h5; subst h5
      rw [if_neg e'] at h6 h4
      obtain ⟨B2, hB2⟩ := Option.isSome_iff_exists.1 h4
      have := hlt i' B2 L2 hB2 h6
      omega
    · rw [if_pos e'] at h6; injection h6 with h6; subst h6
      rw [if_neg e] at h5 h3
      obtain ⟨B1, hB1⟩ := Option.isSome_iff_exists.1 h3
      have := hlt i B1 L1 hB1 h5
      omega
    · rw [if_neg e] at h5 h3; rw [if_neg e'] at h6 h4
      exact t.mr.sep i i' L1 L2 h3 h4 h5 h6 h7
  · rw [if_neg (by omega)]; exact t.mr.free i hi
  · obtain ⟨x, hx⟩ := t.mr.glob g hg
    by_cases e : g = k
    · subst e; rw [hk] at hx; cases hx
    · exact ⟨x, by rw [if_neg e]; exact hx⟩
  · rw [hold r (by have := t.size; omega)]; exact t.fr r hr hn
  · by_cases e : i = k
    · rw [if_pos e] at hs'; injection hs' with hs'; subst hs'
      exact .inl (by have := t.size; omega)
    · rw [if_neg e] at hi hs'
      exact t.src i L' hi hs'
  · rw [if_neg (by omega)]; exact t.dom i hi hn
  · obtain ⟨g1, g2⟩ := t.qt r hr hq
    have hw := t.size
    refine ⟨(hold r (by omega)).trans g1, fun i L1 B1 (h1 : (if i = k then some B else hs i) = some B1) (h2 : (if i = k then some L else σ i) = some L1) h3 => ?_⟩
    by_cases e : i = k
    · rw [if_pos e] at h2; injection h2 with h2; subst h2; omega
    · rw [if_neg e] at h1 h2; exact g2 i L1 B1 h1 h2 h3

section
variable {P : Program} {G n : Nat} {call : CallF} {ops : Array Oper} {nx0 : Nat}
theorem okn {v v1 : Value} {h h' : Hp} {nx nx' : Nat} (hm : OR.ok v1 h nx = OR.ok v h' nx') : h' = h ∧ nx' = nx := by
  obtain ⟨_, h3, h4⟩ := ok_inj hm
  exact ⟨h3.symm, h4.symm⟩
theorem okb {v v1 : Value} {h h' : Hp} {nx nx' : Nat} {b : Bool} (hm : bo b (OR.ok v1 h nx) OR.bad = OR.ok v h' nx') : h' = h ∧ nx' = nx := by
  obtain ⟨_, hm⟩ := bo_inv hm (by simp)
  exact okn hm
theorem okbb {v v1 v2 : Value} {h h' : Hp} {nx nx' : Nat} {b c : Bool} (hm : bo b (bo c (OR.ok v1 h nx) (OR.ok v2 h nx)) OR.bad = OR.ok v h' nx') : h' = h ∧ nx' = nx := by
  obtain ⟨_, hm⟩ := bo_inv hm (by simp)
  cases c with
  | true => exact okn hm
  | false => exact okn hm
theorem okSl {v v1 v2 : Value} {h h' : Hp} {nx nx' id off z s l u : Nat} {b c : Bool} (hm : bo b (bo c (OR.ok v1 h nx) (OR.ok v2 h nx)) (mSlKnown h nx id off z s l u) = OR.ok v h' nx') : h' = h ∧ nx' = nx := by
  cases b with
  | true => exact okbb (b := true) hm
  | false =>
    rw [bo_false] at hm
    unfold mSlKnown at hm
    split at hm
    · exact okb hm
    · cases hm
theorem okz {v : Value} {h' : Hp} {nx' : Nat} {b : Bool} (hm : bo b OR.bad OR.bad = OR.ok v h' nx') : False := by
  cases b <;> cases hm
theorem okoo {α : Type} {x : Option α} {f : α → Value} {v : Value} {h h' : Hp} {nx nx' : Nat} (hm : oo x OR.bad (fun a => OR.ok (f a) h nx) = OR.ok v h' nx') : h' = h ∧ nx' = nx := by
  obtain ⟨a, _, hm⟩ := oo_inv hm (by simp)
  exact okn hm
/-- An operation that only looks leaves memory. -/
theorem still_ok {o : Oper} {e : Tb Value} {h h' : Hp} {nx nx' : Nat} {v : Value} (hk : dKind P o.op = 0) (hm : mOp P G call e h nx o = .ok v h' nx') : h' = h ∧ nx' = nx := by
  have flatn : mFlat P G e h nx o = .ok v h' nx' → h' = h ∧ nx' = nx := fun hm => by
    obtain ⟨h1, hm⟩ := bo_inv hm (by simp)
    split at hm
    · obtain ⟨h2, hm⟩ := bo_inv hm (by simp)
      obtain ⟨_, h3, h4⟩ := ok_inj hm; exact ⟨h3.symm, h4.symm⟩
    · cases hm
  rw [mOp_eq] at hm
  unfold sOp at hm
  cases ho : o.op <;> rw [ho] at hm hk <;> try (simp only [dKind] at hk; done)
  case move x => exact okoo (x := evO G e x) (f := fun v => v) hm
  case assign x => exact okoo (x := evO G e x) (f := fun v => v) hm
  case pick c x y =>
    have hm : mPick h nx (evO G e c) (evO G e x) (evO G e y) = .ok v h' nx' := hm
    unfold mPick at hm; split at hm
    · obtain ⟨_, h3, h4⟩ := ok_inj hm; exact ⟨h3.symm, h4.symm⟩
    · cases hm
  case build t ps =>
    have hm : mBuild P h nx t (evP G e ps.toList) = .ok v h' nx' := hm
    unfold mBuild at hm
    repeat' split at hm
    all_goals first | exact okn hm | exact okb hm | exact (okz hm).elim | cases hm
  case load t x =>
    have hm : mLoad P h nx t (evO G e x) = .ok v h' nx' := hm
    unfold mLoad at hm
    repeat' split at hm
    all_goals first | exact okn hm | exact okb hm | exact (okz hm).elim | cases hm
  case nilCheck x =>
    have hm : mNil h nx (evO G e x) = .ok v h' nx' := hm
    unfold mNil at hm
    repeat' split at hm
    all_goals first | exact okn hm | exact okb hm | exact (okz hm).elim | cases hm
  case binOp op t x y t' =>
    obtain ⟨a, ha, hm⟩ := oo_inv (show oo (evO G e x) OR.bad (fun a => oo (evO G e y) OR.bad (fun b => binV a b P G e h nx o op t)) = OR.ok v h' nx' from hm) (by simp)
    obtain ⟨b, hb, hm⟩ := oo_inv hm (by simp)
    have any : binAny a b P G e h nx o op t = .ok v h' nx' → h' = h ∧ nx' = nx := fun hm => by
      unfold binAny at hm
      split at hm
      · cases hq : eqNil P t a b with
        | none => rw [hq] at hm; exact flatn hm
        | some r => rw [hq] at hm; obtain ⟨_, h3, h4⟩ := ok_inj hm; exact ⟨h3.symm, h4.symm⟩
      · cases hq : eqNil P t a b with
        | none => rw [hq] at hm; exact flatn hm
        | some r => rw [hq] at hm; obtain ⟨_, h3, h4⟩ := ok_inj hm; exact ⟨h3.symm, h4.symm⟩
      · exact flatn hm
    cases a with
    | int k m =>
      cases b with
      | int k' m' =>
        have hm : bo (Nat.beq (ikn k) (ikn k')) (oo (intOp op k m m') (oo (shOp op k m m') (mFlat P G e h nx o) (fun v => .ok v h nx)) (fun v => .ok v h nx)) (oo (shOp op k m m') (mFlat P G e h nx o) (fun v => .ok v h nx)) = .ok v h' nx' := hm
        have sh : oo (shOp op k m m') (mFlat P G e h nx o) (fun v => .ok v h nx) = .ok v h' nx' → h' = h ∧ nx' = nx := fun hm => by
          cases hi : shOp op k m m' with
          | none => rw [hi] at hm; exact flatn hm
          | some r => rw [hi] at hm; obtain ⟨_, h3, h4⟩ := ok_inj hm; exact ⟨h3.symm, h4.symm⟩
        cases hq : Nat.beq (ikn k) (ikn k') with
        | false => rw [hq] at hm; exact sh hm
        | true =>
          rw [hq, bo_true] at hm
          cases hi : intOp op k m m' with
          | none => rw [hi] at hm; exact sh hm
          | some r => rw [hi] at hm; obtain ⟨_, h3, h4⟩ := ok_inj hm; exact ⟨h3.symm, h4.symm⟩
      | _ => exact flatn hm
    | string s =>
      cases b with
      | string s' =>
        exact okoo (x := strOp op s.data.toList s'.data.toList) (f := fun v => v) hm
      | _ => cases hm
    | _ => exact any hm
  case unOp => exact flatn hm
  case convert s d x =>
    have hm : mConv P G e h nx o s d (evO G e x) = .ok v h' nx' := hm
    unfold mConv at hm
    repeat' split at hm
    all_goals first | exact flatn hm | exact okn hm | exact okb hm | (cases hm; done) | skip
    · rename_i h1 _ h2 h3 _ h4; simp only [dKind] at hk; rw [h2, h3] at hk; cases hk
  case sliceToArrayPointer t x =>
    have hm : mArr P h nx t (evO G e x) = .ok v h' nx' := hm
    unfold mArr at hm
    repeat' split at hm
    all_goals first | exact okn hm | exact okb hm | exact (okz hm).elim | cases hm
  case makeInterface t x =>
    have hm : mIface P h nx t (evO G e x) = .ok v h' nx' := hm
    unfold mIface at hm
    repeat' split at hm
    all_goals first | exact okn hm | exact okb hm | exact (okz hm).elim | cases hm
  case makeFunc f xs ys =>
    have hm : mFunc h nx f (evL G e xs.toList) (evL G e ys.toList) = .ok v h' nx' := hm
    unfold mFunc at hm
    repeat' split at hm
    all_goals first | exact okn hm | exact okb hm | exact (okz hm).elim | cases hm
  case slice t x lo hi mx =>
    have hm : mSlice P h nx t (evO G e x) (lo.map (evO G e)) (hi.map (evO G e)) (mx.map (evO G e)) = .ok v h' nx' := hm
    unfold mSlice at hm
    repeat' split at hm
    all_goals first | exact okn hm | exact okb hm | exact okbb hm | exact okSl hm | exact (okz hm).elim | cases hm
  case fieldAddr s x f =>
    have hm : mFieldAddr P h nx s f (evO G e x) = .ok v h' nx' := hm
    unfold mFieldAddr at hm
    repeat' split at hm
    all_goals first | exact okn hm | exact okb hm | exact (okz hm).elim | cases hm
  case field s x f =>
    have hm : mField P h nx s f (evO G e x) = .ok v h' nx' := hm
    unfold mField at hm
    repeat' split at hm
    all_goals first | exact okn hm | exact okb hm | exact (okz hm).elim | cases hm
  case indexAddr t x i =>
    have hm : mIndexAddr P h nx t (evO G e x) (evO G e i) = .ok v h' nx' := hm
    unfold mIndexAddr at hm
    repeat' split at hm
    all_goals first | exact okn hm | exact okb hm | exact (okz hm).elim | cases hm
  case index t x i =>
    have hm : mIndex P h nx t (evO G e x) (evO G e i) = .ok v h' nx' := hm
    unfold mIndex at hm
    repeat' split at hm
    all_goals first | exact okn hm | exact okb hm | exact (okz hm).elim | cases hm
  case lookup t x i ok =>
    have hm : mLookup P h nx t ok (evO G e x) (evO G e i) = .ok v h' nx' := hm
    unfold mLookup at hm
    repeat' split at hm
    all_goals first | exact okn hm | exact okb hm | exact (okz hm).elim | cases hm
  case entry x =>
    have hm : mEntry h nx (evO G e x) = .ok v h' nx' := hm
    unfold mEntry at hm
    repeat' split at hm
    all_goals first | exact okb hm | exact (okz hm).elim | cases hm
  case extract x i =>
    have hm : mExtract h nx i (evO G e x) = .ok v h' nx' := hm
    unfold mExtract at hm
    repeat' split at hm
    all_goals first | exact okn hm | exact okb hm | exact (okz hm).elim | cases hm
  case call c =>
    obtain ⟨callee, args, ts⟩ := c
    cases callee with
    | value f => cases hk
    | invoke r m => cases hk
    | builtin b =>
      have hm : mBuiltin P G e h nx o b args.toList ts.toList = .ok v h' nx' := hm
      unfold mBuiltin at hm
      split at hm
      · unfold mLen at hm
        repeat' split at hm
        all_goals first | exact okn hm | exact okb hm | exact (okz hm).elim | cases hm
      · cases hk
      · cases hk
      · cases hk
      · exact flatn hm
      · exact flatn hm
      · cases hm
  all_goals first | cases hm | cases hk
end
end Go.Proofs.YthdlljlcffokbaaDoor
namespace Go.Proofs.YthdlljlcffokbaaDoor
open Go.RowKit

section
variable {P : Program} {G n : Nat} {call : CallF} {ops : Array Oper} {nx0 : Nat}
/-- What one step of the way is. -/
structure StepI (P : Program) (G n : Nat) (call : CallF) (ops : Array Oper) (nx0 i m : Nat) (o : Oper) (s s' : DSt) : Prop where
  put : mPut n s.e o.dst s'.v = some s'.e
  kinds : s'.kd = 0 ∨ s'.kd = 1 ∨ s'.kd = 2 ∨ s'.kd = 3
  off : s'.kd = 3 → s'.v = undef ∧ ∃ g, o.guard = some g ∧ mGuard ops s.e g = some false
  on : s'.kd ≠ 3 → o.guard = none ∨ ∃ g, o.guard = some g ∧ mGuard ops s.e g = some true
  stay : s'.kd ≠ 2 → s'.cur = s.cur ∧ s'.old = s.old ∧ s'.ld = s.ld
  fr : s'.kd ≠ 1 → s'.F = s.F
  still : s'.kd = 0 → dKind P o.op = 0 ∧ (∃ h1 n1, mOp P G call s.e (dH nx0 m s.F s.cur) s.cur.nx o = .ok s'.v h1 n1) ∧ dBack P G call nx0 m o s.e s.F s'.v s.old s.cur = true ∧ s'.lv = ⟨i, m, o, s.e, s.F, s'.v⟩ :: s.lv
  fresh : s'.kd = 1 → dKind P o.op = 1 ∧ ∃ h' n' B, mOp P G call s.e .lf (nx0 + i) o = .ok s'.v h' n' ∧ h'.get (nx0 + i) = some B ∧ s'.F = (i, B) :: s.F
  lvs : s'.kd = 1 ∨ s'.kd = 3 → s'.lv = s.lv
  loud : s'.kd = 2 → mOp P G call s.e (dH nx0 m s.F s.cur) s.cur.nx o = .ok s'.v s'.cur.h s'.cur.nx ∧ s'.cur.mt = Nat.lor s.cur.mt m ∧ s'.cur.lo = some i ∧ s'.old = s.cur :: s.old ∧ (∀ b ∈ s.ld, tb m b = true) ∧
    (∀ l ∈ s.lv, tb m l.i = true ∨ dChk P G call nx0 l.m l.o l.e l.F l.v s'.cur = true) ∧ s'.lv = s.lv.filter (fun l => !tb m l.i) ∧ s'.ld = i :: s.ld
theorem dStep_inv {i m : Nat} {o : Oper} {s s' : DSt} (h : dStep P G n call ops nx0 i m o s = some s') : StepI P G n call ops nx0 i m o s s' := by
  have gd : ∀ b, dGuard ops s.e o = some b → (b = false → ∃ g, o.guard = some g ∧ mGuard ops s.e g = some false) ∧ (b = true → o.guard = none ∨ ∃ g, o.guard = some g ∧ mGuard ops s.e g = some true) := fun b hb => by
    unfold dGuard at hb
    cases hg : o.guard with
    | none => rw [hg, oo_none] at hb; injection hb with hb; subst hb; exact ⟨fun h => by (cases h), fun _ => .inl rfl⟩
    | some g =>
      rw [hg, oo_some] at hb
      cases b with
      | true => exact ⟨fun h => by (cases h), fun _ => .inr ⟨g, rfl, hb⟩⟩
      | false => exact ⟨fun _ => ⟨g, rfl, hb⟩, fun h => by (cases h)⟩
  unfold dStep at h
  split at h
  · rename_i hb
    obtain ⟨e', hp, h⟩ := oo_inv h (by simp)
    injection h with h; subst h
    exact ⟨hp, by simp, fun _ => ⟨rfl, (gd _ hb).1 rfl⟩, fun hh => absurd rfl hh, fun _ => ⟨rfl, rfl, rfl⟩, fun _ => rfl, fun hh => by (cases hh), fun hh => by (cases hh), fun _ => rfl, fun hh => by (cases hh)⟩
  · rename_i hb
    have hon := (gd _ hb).2 rfl
    split at h
    · rename_i hk
      unfold dStill at h
      split at h
      · rename_i v h1 n1 hm
        obtain ⟨hback, h⟩ := bo_inv h (by simp)
        obtain ⟨e', hp, h⟩ := oo_inv h (by simp)
        injection h with h; subst h
        exact ⟨hp, by simp, fun hh => by (cases hh), fun _ => hon, fun _ => ⟨rfl, rfl, rfl⟩, fun _ => rfl, fun _ => ⟨hk, ⟨h1, n1, hm⟩, hback, rfl⟩, fun hh => by (cases hh), fun hh => by (rcases hh with hh | hh <;> cases hh), fun hh => by (cases hh)⟩
      · cases h
    · rename_i hk
      unfold dFresh at h
      split at h
      · rename_i v h1 n1 hm
        obtain ⟨B, hB, h⟩ := oo_inv h (by simp)
        obtain ⟨e', hp, h⟩ := oo_inv h (by simp)
        injection h with h; subst h
        exact ⟨hp, by simp, fun hh => by (cases hh), fun _ => hon, fun _ => ⟨rfl, rfl, rfl⟩, fun hh => absurd rfl hh, fun hh => by (cases hh), fun _ => ⟨hk, h1, n1, B, hm, hB, rfl⟩, fun _ => rfl, fun hh => by (cases hh)⟩
      · cases h
    · unfold dLoud at h
      split at h
      · rename_i v h1 n1 hm
        obtain ⟨hc, h⟩ := bo_inv h (by simp)
        obtain ⟨e', hp, h⟩ := oo_inv h (by simp)
        injection h with h; subst h
        simp only [Bool.and_eq_true] at hc
        exact ⟨hp, by simp, fun hh => by (cases hh), fun _ => hon, fun hh => absurd rfl hh, fun _ => rfl, fun hh => by (cases hh), fun hh => by (cases hh), fun hh => by (rcases hh with hh | hh <;> cases hh),
          fun _ => ⟨hm, rfl, rfl, rfl, fun b hb => List.all_eq_true.1 hc.1 b hb, fun l hl => by simpa using List.all_eq_true.1 hc.2 l hl, rfl, rfl⟩⟩
      · cases h
  · cases h
theorem dGo_inv : ∀ (l : List (Oper × Nat)) (i : Nat) {s sN : DSt}, dGo P G n call ops nx0 l i s = some sN → ∃ st : Nat → DSt, st 0 = s ∧ st l.length = sN ∧ ∀ j o m, l[j]? = some (o, m) → StepI P G n call ops nx0 (i + j) m o (st j) (st (j + 1))
  | [], i, s, sN, h => by
    injection h with h; subst h
    exact ⟨fun _ => s, rfl, rfl, fun j o m hj => by simp at hj⟩
  | p :: l, i, s, sN, h => by
    obtain ⟨s', h1, h2⟩ := oo_inv (show oo (dStep P G n call ops nx0 i p.2 p.1 s) none (fun s' => dGo P G n call ops nx0 l (i + 1) s') = some sN from h) (by simp)
    obtain ⟨st, h3, h4, h5⟩ := dGo_inv l (i + 1) h2
    refine ⟨fun j => match j with | 0 => s | j + 1 => st j, rfl, h4, fun j o m hj => ?_⟩
    cases j with
    | zero =>
      simp only [List.getElem?_cons_zero, Option.some.injEq] at hj
      subst hj
      show StepI P G n call ops nx0 i m o s (st 0)
      rw [h3]
      exact dStep_inv h1
    | succ j =>
      rw [List.getElem?_cons_succ] at hj
      have := h5 j o m hj
      rw [show i + (j + 1) = i + 1 + j by omega]
      exact this
theorem lkm_mem {t : Nat} : ∀ {l : List Nat}, t ∈ l → tb (lkm l) t = true
  | [], h => by cases h
  | x :: l, h => by
    show tb (Nat.lor (Nat.pow 2 x) (lkm l)) t = true
    rw [tb_lor, tb_pow, Bool.or_eq_true, decide_eq_true_eq]
    rcases List.mem_cons.1 h with h | h
    · exact .inl h.symm
    · exact .inr (lkm_mem h)
theorem dApart_ok {d1 d2 : Option Nat} {l1 l2 : List Nat} {ord : Bool} (h : dApart d1 d2 (lkm l1) (lkm l2) ord = true) : (∀ d, d1 = some d → d2 ≠ some d) ∧ (ord = true ∨ (∀ d, d1 = some d → d ∉ l2) ∧ (∀ d, d2 = some d → d ∉ l1)) := by
  have nm : ∀ (l : List Nat) t, tb (lkm l) t = false → t ∉ l := fun l t ht hm => by rw [lkm_mem hm] at ht; cases ht
  unfold dApart at h
  split at h
  · rename_i a b
    cases hab : Nat.beq a b with
    | true => rw [hab] at h; cases h
    | false =>
      rw [hab, bo_false] at h
      have hne : a ≠ b := fun e => by subst e; simp at hab
      refine ⟨fun d hd hd2 => hne (by injection hd with hd; injection hd2 with hd2; rw [hd, hd2]), ?_⟩
      cases ord with
      | true => exact .inl rfl
      | false =>
        rw [bo_false] at h
        cases h1 : tb (lkm l2) a with
        | true => rw [h1] at h; cases h
        | false =>
          rw [h1, bo_false] at h
          cases h2 : tb (lkm l1) b with
          | true => rw [h2] at h; cases h
          | false => exact .inr ⟨fun d hd => by injection hd with hd; subst hd; exact nm _ _ h1, fun d hd => by injection hd with hd; subst hd; exact nm _ _ h2⟩
  · rename_i a
    refine ⟨fun d _ hd2 => by (cases hd2), ?_⟩
    cases ord with
    | true => exact .inl rfl
    | false =>
      rw [bo_false] at h
      cases h1 : tb (lkm l2) a with
      | true => rw [h1] at h; cases h
      | false => exact .inr ⟨fun d hd => by injection hd with hd; subst hd; exact nm _ _ h1, fun d hd => by (cases hd)⟩
  · rename_i b
    refine ⟨fun d hd _ => by (cases hd), ?_⟩
    cases ord with
    | true => exact .inl rfl
    | false =>
      rw [bo_false] at h
      cases h2 : tb (lkm l1) b with
      | true => rw [h2] at h; cases h
      | false => exact .inr ⟨fun d hd => by (cases hd), fun d hd => by injection hd with hd; subst hd; exact nm _ _ h2⟩
  · exact ⟨fun d hd _ => by (cases hd), .inr ⟨fun d hd => by (cases hd), fun d hd => by (cases hd)⟩⟩
theorem dStat_inv : ∀ (l : List (Oper × Nat)) (i : Nat) (prev : List (Nat × Option Nat × Nat)), dStat ops l i prev = true →
    (∀ j o m, l[j]? = some (o, m) → (∀ ed ∈ o.after, Region.binds .any ed = true → ed.on < i + j) ∧ (∀ p ∈ prev, dApart p.2.1 o.dst p.2.2 (lkm (o.looksAt ops)) (tb m p.1) = true)) ∧
    ∀ j k oj mj ok mk, j < k → l[j]? = some (oj, mj) → l[k]? = some (ok, mk) → dApart oj.dst ok.dst (lkm (oj.looksAt ops)) (lkm (ok.looksAt ops)) (tb mk (i + j)) = true
  | [], i, prev, _ => ⟨fun j o m hj => by simp at hj, fun j k oj mj ok mk _ hj => by simp at hj⟩
  | p :: l, i, prev, h => by
    obtain ⟨h1, h⟩ := bo_inv (show bo (p.1.after.toList.all (fun ed => !Region.binds .any ed || Nat.blt ed.on i)) (bo (dStatO prev p.2 (lkm (p.1.looksAt ops)) p.1.dst) (dStat ops l (i + 1) ((i, p.1.dst, lkm (p.1.looksAt ops)) :: prev)) false) false = true from h) (by simp)
    obtain ⟨h2, h⟩ := bo_inv h (by simp)
    obtain ⟨h3, h4⟩ := dStat_inv l (i + 1) _ h
    refine ⟨fun j o m hj => ?_, fun j k oj mj ok mk hjk hj hk => ?_⟩
    · cases j with
      | zero =>
        simp only [List.getElem?_cons_zero, Option.some.injEq] at hj
        subst hj
        refine ⟨fun ed hed hb => ?_, fun q hq => List.all_eq_true.1 h2 q hq⟩
        have := List.all_eq_true.1 h1 ed (by simpa using hed)
        rw [hb] at this
        simpa using blt_lt (by simpa using this)
      | succ j =>
        rw [List.getElem?_cons_succ] at hj
        obtain ⟨h5, h6⟩ := h3 j o m hj
        exact ⟨fun ed hed hb => by have := h5 ed hed hb; omega, fun q hq => h6 q (by simp [hq])⟩
    · cases k with
      | zero => omega
      | succ k =>
        rw [List.getElem?_cons_succ] at hk
        cases j with
        | zero =>
          simp only [List.getElem?_cons_zero, Option.some.injEq] at hj
          subst hj
          exact (h3 k ok mk hk).2 (i, oj.dst, lkm (oj.looksAt ops)) (by simp)
        | succ j =>
          rw [List.getElem?_cons_succ] at hj
          have := h4 j k oj mj ok mk (by omega) hj hk
          rw [show i + (j + 1) = i + 1 + j by omega]
          exact this
/-- All that is known of a region's way. -/
structure Pl (P : Program) (G n : Nat) (call : CallF) (ops : Array Oper) (nx0 : Nat) (ms : Nat → Nat) (st : Nat → DSt) : Prop where
  step : ∀ i o, ops[i]? = some o → StepI P G n call ops nx0 i (ms i) o (st i) (st (i + 1))
  back : ∀ i o, ops[i]? = some o → ∀ ed ∈ o.after, Region.binds .any ed = true → ed.on < i
  pair : ∀ i j oi oj, i < j → ops[i]? = some oi → ops[j]? = some oj → (∀ d, oi.dst = some d → oj.dst ≠ some d) ∧ (tb (ms j) i = true ∨ (∀ d, oi.dst = some d → d ∉ oj.looksAt ops) ∧ (∀ d, oj.dst = some d → d ∉ oi.looksAt ops))
  clos : ∀ i o j, ops[i]? = some o → tb (ms i) j = true → ∃ ed ∈ o.after, Region.binds .any ed = true ∧ (ed.on = j ∨ tb (ms ed.on) j = true)
  lo0 : (st 0).cur.lo = none
  F0 : (st 0).F = []
  ld0 : (st 0).ld = []
  lv0 : (st 0).lv = []
variable {ms : Nat → Nat} {st : Nat → DSt}
theorem pl_of {e0 : Tb Value} {h0 : Hp} {sN : DSt} (h1 : dStat ops (ops.toList.zip (masks ops.toList [])) 0 [] = true) (h2 : dGo P G n call ops nx0 (ops.toList.zip (masks ops.toList [])) 0 ⟨e0, [], ⟨h0, nx0 + ops.toList.length, 0, none⟩, [], [], [], undef, 3⟩ = some sN) :
    ∃ ms st, Pl P G n call ops nx0 ms st ∧ st 0 = ⟨e0, [], ⟨h0, nx0 + ops.toList.length, 0, none⟩, [], [], [], undef, 3⟩ ∧ st ops.size = sN := by
  have mlen : ∀ (l : List Oper) (acc : List Nat), (masks l acc).length = acc.length + l.length := fun l => by
    induction l with
    | nil => intro acc; rfl
    | cons o l ih => intro acc; rw [masks_cons, ih]; simp; omega
  obtain ⟨st, h3, h4, h5⟩ := dGo_inv _ 0 h2
  obtain ⟨h6, h7⟩ := dStat_inv _ 0 [] h1
  have hlen : (ops.toList.zip (masks ops.toList [])).length = ops.size := by
    rw [List.length_zip, mlen]; simp
  have hget : ∀ i o, ops[i]? = some o → (ops.toList.zip (masks ops.toList []))[i]? = some (o, ((masks ops.toList [])[i]?).getD 0) := fun i o ho => by
    have hi := (Array.getElem?_eq_some_iff.1 ho).1
    have hm : i < (masks ops.toList []).length := by rw [mlen]; simpa using hi
    rw [List.getElem?_zip_eq_some]
    exact ⟨by simpa using ho, by rw [List.getElem?_eq_getElem hm]; rfl⟩
  rw [hlen] at h4
  refine ⟨fun i => ((masks ops.toList [])[i]?).getD 0, st, ⟨fun i o ho => ?_, fun i o ho ed hed hb => ?_, fun i j oi oj hij hi hj => ?_, fun i o j ho ht => ?_, by rw [h3], by rw [h3], by rw [h3], by rw [h3]⟩, h3, h4⟩
  · have := h5 i o _ (hget i o ho)
    rwa [Nat.zero_add] at this
  · have := (h6 i o _ (hget i o ho)).1 ed hed hb
    omega
  · have := h7 i j oi _ oj _ hij (hget i oi hi) (hget j oj hj)
    rw [Nat.zero_add] at this
    exact dApart_ok this
  · obtain ⟨acc', ha, hm⟩ := masks_get ops.toList [] i o (by simpa using ho)
    simp only [List.length_nil, Nat.zero_add] at ha hm
    rw [hm, Option.getD_some] at ht
    obtain ⟨ed, h8, h9, h10⟩ := maskE_bit ht
    refine ⟨ed, by simpa using h8, h9, ?_⟩
    rcases h10 with h10 | ⟨m, h10, h11⟩
    · exact .inl h10
    · right
      rw [ha] at h10
      split at h10
      · rw [h10]; exact h11
      · cases h10

/-- Listed. -/
def Ls (listed : Array Bool) (i : Nat) : Prop := listed.getD i false = true
def Closed (ops : Array Oper) (S : Nat → Prop) : Prop := ∀ j o, ops[j]? = some o → S j → ∀ ed ∈ o.after, Region.binds .any ed = true → S ed.on
theorem Pl.before (pl : Pl P G n call ops nx0 ms st) {S : Nat → Prop} (hc : Closed ops S) : ∀ (i : Nat) (o : Oper), ops[i]? = some o → (∀ ed ∈ o.after, Region.binds .any ed = true → S ed.on) → ∀ j, tb (ms i) j = true → S j := by
  intro i
  induction i using Nat.strongRecOn with
  | _ i ih =>
    intro o ho hp j hj
    obtain ⟨ed, h1, h2, h3⟩ := pl.clos i o j ho hj
    have hS := hp ed h1 h2
    rcases h3 with h3 | h3
    · rw [← h3]; exact hS
    · have hlt := pl.back i o ho ed h1 h2
      have hlt2 : ed.on < ops.size := by have := (Array.getElem?_eq_some_iff.1 ho).1; omega
      exact ih ed.on hlt _ (Array.getElem?_eq_getElem hlt2) (fun ed2 h4 h5 => hc ed.on _ (Array.getElem?_eq_getElem hlt2) hS ed2 h4 h5) j h3
theorem Pl.env (pl : Pl P G n call ops nx0 ms st) (t : Nat) : ∀ i, i ≤ ops.size → (∃ j oj, j < i ∧ ops[j]? = some oj ∧ oj.dst = some t ∧ (st i).e.get t = some (st (j + 1)).v) ∨ ((∀ j oj, j < i → ops[j]? = some oj → oj.dst ≠ some t) ∧ (st i).e.get t = (st 0).e.get t)
  | 0, _ => .inr ⟨fun j oj hj => by omega, rfl⟩
  | i + 1, hi => by
    have ho := Array.getElem?_eq_getElem (show i < ops.size by omega)
    have hp := (pl.step i _ ho).put
    have hi' := pl.env t i (by omega)
    cases hd : (ops[i]'(by omega)).dst with
    | none =>
      rw [hd] at hp
      injection hp with hp
      rw [← hp]
      rcases hi' with ⟨j, oj, h1, h2, h3, h4⟩ | ⟨h1, h2⟩
      · exact .inl ⟨j, oj, by omega, h2, h3, h4⟩
      · refine .inr ⟨fun j oj hj hoj => ?_, h2⟩
        by_cases e : j = i
        · subst e; rw [ho] at hoj; injection hoj with hoj; rw [← hoj, hd]; simp
        · exact h1 j oj (by omega) hoj
    | some d =>
      rw [hd] at hp
      rw [mPut_some] at hp
      obtain ⟨_, hp⟩ := bo_inv hp (by simp)
      injection hp with hp
      rw [← hp, Tb.get_put]
      by_cases e : t = d
      · subst e
        exact .inl ⟨i, _, by omega, ho, hd, by rw [if_pos rfl]⟩
      · rw [if_neg e]
        rcases hi' with ⟨j, oj, h1, h2, h3, h4⟩ | ⟨h1, h2⟩
        · exact .inl ⟨j, oj, by omega, h2, h3, h4⟩
        · refine .inr ⟨fun j oj hj hoj => ?_, h2⟩
          by_cases e2 : j = i
          · subst e2; rw [ho] at hoj; injection hoj with hoj; rw [← hoj, hd]; intro h; injection h with h; exact e h.symm
          · exact h1 j oj (by omega) hoj
theorem Pl.cur (pl : Pl P G n call ops nx0 ms st) {c : Nat} : ∀ i, c ≤ i → i ≤ ops.size → (∀ e, c ≤ e → e < i → (st (e + 1)).kd ≠ 2) → (st i).cur = (st c).cur := by
  intro i
  induction i with
  | zero => intro h _ _; obtain rfl : c = 0 := by omega
            rfl
  | succ i ih =>
    intro h hi hl
    by_cases e : c = i + 1
    · rw [e]
    · rw [((pl.step i _ (Array.getElem?_eq_getElem (show i < ops.size by omega))).stay (hl i (by omega) (by omega))).1]
      exact ih (by omega) (by omega) (fun e h1 h2 => hl e h1 (by omega))
theorem Pl.ld (pl : Pl P G n call ops nx0 ms st) {b : Nat} (hk : (st (b + 1)).kd = 2) : ∀ i, b < i → i ≤ ops.size → b ∈ (st i).ld := by
  intro i
  induction i with
  | zero => intro h _; omega
  | succ i ih =>
    intro h hi
    have hs := pl.step i _ (Array.getElem?_eq_getElem (show i < ops.size by omega))
    by_cases e : b = i
    · subst e
      rw [(hs.loud hk).2.2.2.2.2.2.2]; simp
    · have := ih (by omega) (by omega)
      by_cases hk2 : (st (i + 1)).kd = 2
      · rw [(hs.loud hk2).2.2.2.2.2.2.2]; simp [this]
      · rw [(hs.stay hk2).2.2]; exact this
/-- Those that change memory come one behind the other. -/
theorem Pl.chain (pl : Pl P G n call ops nx0 ms st) {b i : Nat} (hb : (st (b + 1)).kd = 2) (hi : (st (i + 1)).kd = 2) (hlt : b < i) (hN : i < ops.size) : tb (ms i) b = true :=
  ((pl.step i _ (Array.getElem?_eq_getElem hN)).loud hi).2.2.2.2.1 b (pl.ld hb i hlt (by omega))
theorem Pl.Fs (pl : Pl P G n call ops nx0 ms st) {j : Nat} {B : Bl} : ∀ i, i ≤ ops.size → (j, B) ∈ (st i).F → j < i ∧ (st (j + 1)).kd = 1 ∧ (st (j + 1)).F.head? = some (j, B) := by
  intro i
  induction i with
  | zero => intro _ h; rw [pl.F0] at h; cases h
  | succ i ih =>
    intro hi h
    have hs := pl.step i _ (Array.getElem?_eq_getElem (show i < ops.size by omega))
    by_cases hk : (st (i + 1)).kd = 1
    · obtain ⟨_, h', n', B', _, _, hF⟩ := hs.fresh hk
      rw [hF] at h
      rcases List.mem_cons.1 h with h | h
      · injection h with h1 h2; subst h1; subst h2
        exact ⟨by omega, hk, by rw [hF]; rfl⟩
      · obtain ⟨h1, h2⟩ := ih (by omega) h
        exact ⟨by omega, h2⟩
    · rw [hs.fr hk] at h
      obtain ⟨h1, h2⟩ := ih (by omega) h
      exact ⟨by omega, h2⟩
/-- The operation yields its value in this memory too. -/
def Ck (P : Program) (G : Nat) (call : CallF) (nx0 : Nat) (ms : Nat → Nat) (st : Nat → DSt) (i : Nat) (o : Oper) (sn : Snap) : Prop := ∃ h1 n1, mOp P G call (st i).e (dH nx0 (ms i) (st i).F sn) sn.nx o = .ok (st (i + 1)).v h1 n1
theorem dChk_ok {m : Nat} {o : Oper} {e : Tb Value} {F : List (Nat × Bl)} {v : Value} {sn : Snap} (h : dChk P G call nx0 m o e F v sn = true) : ∃ h1 n1, mOp P G call e (dH nx0 m F sn) sn.nx o = .ok v h1 n1 := by
  unfold dChk at h
  cases hq : mOp P G call e (dH nx0 m F sn) sn.nx o with
  | bad => rw [hq] at h; cases h
  | ok u h1 n1 =>
    rw [hq] at h
    rw [veq_ok h]
    exact ⟨h1, n1, rfl⟩
theorem Pl.backs (pl : Pl P G n call ops nx0 ms st) {i : Nat} {o : Oper} : ∀ c, c ≤ ops.size → dBack P G call nx0 (ms i) o (st i).e (st i).F (st (i + 1)).v (st c).old (st c).cur = true → Ck P G call nx0 ms st i o (st c).cur →
    (∀ b, b < c → (st (b + 1)).kd = 2 → (∀ e, b < e → e < c → (st (e + 1)).kd = 2 → tb (ms i) e = false) → Ck P G call nx0 ms st i o (st (b + 1)).cur) ∧
    ((∀ e, e < c → (st (e + 1)).kd = 2 → tb (ms i) e = false) → Ck P G call nx0 ms st i o (st 0).cur) := by
  intro c
  induction c with
  | zero => intro _ _ hc; exact ⟨fun b hb => by omega, fun _ => hc⟩
  | succ c ih =>
    intro hN hb hc
    have hs := pl.step c _ (Array.getElem?_eq_getElem (show c < ops.size by omega))
    by_cases hk : (st (c + 1)).kd = 2
    · obtain ⟨_, _, hlo, hold, _⟩ := hs.loud hk
      rw [hold] at hb
      have hb : oo (st (c + 1)).cur.lo true (fun e0 => bo (tb (ms i) e0) true (bo (dChk P G call nx0 (ms i) o (st i).e (st i).F (st (i + 1)).v (st c).cur) (dBack P G call nx0 (ms i) o (st i).e (st i).F (st (i + 1)).v (st c).old (st c).cur) false)) = true := hb
      rw [hlo, oo_some] at hb
      cases ht : tb (ms i) c with
      | true =>
        refine ⟨fun b hbc hkb hno => ?_, fun hno => ?_⟩
        · by_cases e : b = c
          · subst e; exact hc
          · have := hno c (by omega) (by omega) hk
            rw [ht] at this; cases this
        · have := hno c (by omega) hk
          rw [ht] at this; cases this
      | false =>
        rw [ht, bo_false] at hb
        obtain ⟨h1, h2⟩ := bo_inv hb (by simp)
        obtain ⟨h3, h4⟩ := ih (by omega) h2 (dChk_ok h1)
        refine ⟨fun b hbc hkb hno => ?_, fun hno => h4 fun e he => hno e (by omega)⟩
        by_cases e : b = c
        · subst e; exact hc
        · exact h3 b (by omega) hkb (fun e h5 h6 => hno e h5 (by omega))
    · obtain ⟨hcur, hold, _⟩ := hs.stay hk
      rw [hcur, hold] at hb
      rw [hcur] at hc
      obtain ⟨h3, h4⟩ := ih (by omega) hb hc
      refine ⟨fun b hbc hkb hno => ?_, fun hno => h4 fun e he => hno e (by omega)⟩
      by_cases e : b = c
      · subst e; exact absurd hkb hk
      · exact h3 b (by omega) hkb (fun e h5 h6 => hno e h5 (by omega))
theorem Pl.lives (pl : Pl P G n call ops nx0 ms st) {i : Nat} {o : Oper} (ho : ops[i]? = some o) (hk : (st (i + 1)).kd = 0) : ∀ c, i < c → c ≤ ops.size →
    ((⟨i, ms i, o, (st i).e, (st i).F, (st (i + 1)).v⟩ : Live) ∈ (st c).lv ∨ ∃ e, i < e ∧ e < c ∧ (st (e + 1)).kd = 2 ∧ tb (ms e) i = true) ∧
    ∀ b, i < b → b < c → (st (b + 1)).kd = 2 → (∀ e, i < e → e ≤ b → (st (e + 1)).kd = 2 → tb (ms e) i = false) → Ck P G call nx0 ms st i o (st (b + 1)).cur := by
  intro c
  induction c with
  | zero => intro h; omega
  | succ c ih =>
    intro hic hN
    have hs := pl.step c _ (Array.getElem?_eq_getElem (show c < ops.size by omega))
    by_cases e : c = i
    · subst e
      have hs := pl.step c o ho
      exact ⟨.inl (by rw [(hs.still hk).2.2.2]; simp), fun b h1 h2 => by omega⟩
    · obtain ⟨h1, h2⟩ := ih (by omega) (by omega)
      by_cases hk2 : (st (c + 1)).kd = 2
      · obtain ⟨_, _, _, _, _, hchk, hlv, _⟩ := hs.loud hk2
        refine ⟨?_, fun b h3 h4 h5 h6 => ?_⟩
        · rcases h1 with h1 | ⟨e, h1⟩
          · cases ht : tb (ms c) i with
            | true => exact .inr ⟨c, by omega, by omega, hk2, ht⟩
            | false => left; rw [hlv, List.mem_filter]; exact ⟨h1, by simp [ht]⟩
          · exact .inr ⟨e, h1.1, by omega, h1.2.2⟩
        · by_cases eb : b = c
          · subst eb
            rcases h1 with h1 | ⟨e, h7, h8, h9, h10⟩
            · rcases hchk _ h1 with h11 | h11
              · have := h6 b (by omega) (Nat.le_refl _) hk2
                rw [this] at h11; cases h11
              · exact dChk_ok h11
            · have := h6 e h7 (by omega) h9
              rw [this] at h10; cases h10
          · exact h2 b h3 (by omega) h5 h6
      · have hlv : (st c).lv ⊆ (st (c + 1)).lv := by
          rcases hs.kinds with h3 | h3 | h3 | h3
          · rw [(hs.still h3).2.2.2]; exact fun x hx => by simp [hx]
          · rw [hs.lvs (.inl h3)]; exact fun x hx => hx
          · exact absurd h3 hk2
          · rw [hs.lvs (.inr h3)]; exact fun x hx => hx
        refine ⟨?_, fun b h3 h4 h5 h6 => ?_⟩
        · rcases h1 with h1 | ⟨e, h1⟩
          · exact .inl (hlv h1)
          · exact .inr ⟨e, h1.1, by omega, h1.2.2⟩
        · by_cases eb : b = c
          · subst eb; exact absurd h5 hk2
          · exact h2 b h3 (by omega) h5 h6
/-- Which memory it is, by the operations that are done. -/
def SnapOf (ops : Array Oper) (st : Nat → DSt) (S : Nat → Prop) (sn : Snap) : Prop := (sn = (st 0).cur ∧ ∀ b, b < ops.size → S b → (st (b + 1)).kd ≠ 2) ∨ ∃ b, b < ops.size ∧ S b ∧ (st (b + 1)).kd = 2 ∧ sn = (st (b + 1)).cur ∧ ∀ b', b' < ops.size → S b' → (st (b' + 1)).kd = 2 → b' ≤ b
theorem Pl.check (pl : Pl P G n call ops nx0 ms st) {S : Nat → Prop} (hc : Closed ops S) {i : Nat} {o : Oper} (ho : ops[i]? = some o) (hk : (st (i + 1)).kd = 0) (hS : ¬ S i) (hpre : ∀ ed ∈ o.after, Region.binds .any ed = true → S ed.on) {sn : Snap} (hsn : SnapOf ops st S sn) : Ck P G call nx0 ms st i o sn := by
  have hiN := (Array.getElem?_eq_some_iff.1 ho).1
  have hbef := pl.before hc i o ho hpre
  have hs := pl.step i o ho
  obtain ⟨_, hcan, hback, _⟩ := hs.still hk
  have hb := pl.backs i (by omega) hback hcan
  have nb : ∀ e, ¬ S e → tb (ms i) e = false := fun e he => by
    cases ht : tb (ms i) e with
    | false => rfl
    | true => exact absurd (hbef e ht) he
  rcases hsn with ⟨rfl, hno⟩ | ⟨b, hbN, hSb, hkb, rfl, hmax⟩
  · exact hb.2 fun e he hke => nb e fun hh => hno e (by omega) hh hke
  · have hne : b ≠ i := fun e => by subst e; exact hS hSb
    by_cases hlt : b < i
    · exact hb.1 b hlt hkb fun e h1 h2 h3 => nb e fun hh => by have := hmax e (by omega) hh h3; omega
    · refine (pl.lives ho hk ops.size hiN (Nat.le_refl _)).2 b (by omega) hbN hkb fun e h1 h2 h3 => ?_
      have hSe : S e := by
        by_cases e2 : e = b
        · rw [e2]; exact hSb
        · exact pl.before hc b _ (Array.getElem?_eq_getElem hbN) (hc b _ (Array.getElem?_eq_getElem hbN) hSb) e (pl.chain h3 hkb (by omega) hbN)
      cases ht : tb (ms e) i with
      | false => rfl
      | true => exact absurd (pl.before hc e _ (Array.getElem?_eq_getElem (show e < ops.size by omega)) (hc e _ (Array.getElem?_eq_getElem (show e < ops.size by omega)) hSe) i ht) hS
end
end Go.Proofs.YthdlljlcffokbaaDoor
namespace Go.Proofs.YthdlljlcffokbaaDoor
open Go.RowKit

/-- A table cut down to some slots. -/
noncomputable def cutT (e : Tb Value) (l : List Nat) : Tb Value := @List.rec Nat (fun _ => Tb Value) .lf (fun t _ ih => oo (e.get t) (ih.del t) (fun v => ih.put t v)) l
theorem cutT_get (e : Tb Value) (t : Nat) : ∀ l : List Nat, (cutT e l).get t = if t ∈ l then e.get t else none
  | [] => by simp [cutT, Tb.get_lf]
  | x :: l => by
    show (oo (e.get x) ((cutT e l).del x) (fun v => (cutT e l).put x v)).get t = _
    have ih := cutT_get e t l
    cases hx : e.get x with
    | none =>
      rw [oo_none, Tb.get_del]
      by_cases h : t = x
      · subst h; simp [hx]
      · rw [if_neg h, ih]; simp [h]
    | some v =>
      rw [oo_some, Tb.get_put]
      by_cases h : t = x
      · subst h; simp [hx]
      · rw [if_neg h, ih]; simp [h]
section
variable {P : Program} {G n : Nat} {rd : Option Nat} {D : List Deferred} {call : CallF} {ops : Array Oper} {nx0 : Nat} {ms : Nat → Nat} {st : Nat → DSt} {σ0 : Sg} {h0 : Hf} {w0 : World}
/-- How things stand within such a region, some of its operations done. -/
structure RI (G n : Nat) (D : List Deferred) (ops : Array Oper) (nx0 : Nat) (st : Nat → DSt) (σ0 : Sg) (h0 : Hf) (w0 : World) (listed : Array Bool) (a : Act) (w : World) (σ : Sg) (hs : Hf) (sn : Snap) : Prop where
  size : listed.size = ops.size
  closed : Closed ops (Ls listed)
  tr : Tr G σ0 h0 nx0 w0 σ hs sn.nx w
  sub : ∀ id B, sn.h.get id = some B → hs id = some B
  pend : ∀ j B, Ls listed j → (st (j + 1)).kd = 1 → tb sn.mt j = false → (st (j + 1)).F.head? = some (j, B) → hs (nx0 + j) = some B
  nmat : ∀ j, j < ops.size → tb sn.mt j = false → sn.h.get (nx0 + j) = none
  res : ∀ j, j < ops.size → ¬ Ls listed j → σ (nx0 + j) = none
  nxle : nx0 + ops.size ≤ sn.nx
  snap : SnapOf ops st (Ls listed) sn
  tsize : a.tmps.size = n
  defers : a.defers = D
  done : ∀ j o t, ops[j]? = some o → Ls listed j → o.dst = some t → ∃ u, a.tmps[t]? = some u ∧ VR σ (st (j + 1)).v u
  rest : ∀ t v, (∀ j o, ops[j]? = some o → Ls listed j → o.dst ≠ some t) → (st 0).e.get t = some v → ∃ u, a.tmps[t]? = some u ∧ VR σ v u
theorem Ls_set {listed : Array Bool} {i j : Nat} (hi : i < listed.size) : Ls (listed.setIfInBounds i true) j ↔ j = i ∨ Ls listed j := by
  unfold Ls
  by_cases h : i = j
  · subst h
    simp [hi]
  · rw [getD_set_ne false h]
    constructor
    · exact .inr
    · rintro (h' | h')
      · exact absurd h'.symm h
      · exact h'
variable {listed : Array Bool} {a : Act} {w : World} {σ : Sg} {hs : Hf} {sn : Snap}
/-- The slots that the next operation looks at. -/
theorem RI.look (ri : RI G n D ops nx0 st σ0 h0 w0 listed a w σ hs sn) (pl : Pl P G n call ops nx0 ms st) {i : Nat} {o : Oper} (ho : ops[i]? = some o) (hS : ¬ Ls listed i) (hpre : ∀ ed ∈ o.after, Region.binds .any ed = true → Ls listed ed.on) : ER σ n (cutT (st i).e (o.looksAt ops)) a := by
  have hiN := (Array.getElem?_eq_some_iff.1 ho).1
  have hbef := pl.before ri.closed i o ho hpre
  refine ⟨ri.tsize, fun t v hv => ?_⟩
  rw [cutT_get] at hv
  split at hv
  · rename_i hmem
    rcases pl.env t i (by omega) with ⟨j, oj, h1, h2, h3, h4⟩ | ⟨h1, h2⟩
    · rw [h4] at hv; injection hv with hv; subst hv
      by_cases hj : Ls listed j
      · exact ri.done j oj t h2 hj h3
      · obtain ⟨_, h5⟩ := pl.pair j i oj o h1 h2 ho
        rcases h5 with h5 | ⟨h5, _⟩
        · exact absurd (hbef j h5) hj
        · exact absurd hmem (h5 t h3)
    · rw [h2] at hv
      refine ri.rest t v (fun j oj hoj hj hd => ?_) hv
      by_cases hji : j < i
      · exact h1 j oj hji hoj hd
      · have hne : j ≠ i := fun e => by subst e; exact hS hj
        obtain ⟨_, h5⟩ := pl.pair i j o oj (by omega) ho hoj
        rcases h5 with h5 | ⟨_, h5⟩
        · exact hS (pl.before ri.closed j oj hoj (ri.closed j oj hoj hj) i h5)
        · exact h5 t hd hmem
  · cases hv
/-- The slots behind an operation. -/
theorem RI.slots (ri : RI G n D ops nx0 st σ0 h0 w0 listed a w σ hs sn) (pl : Pl P G n call ops nx0 ms st) {i : Nat} {o : Oper} (ho : ops[i]? = some o) {σ' : Sg} (hle : σ.le σ') {u : Value} (hv : VR σ' (st (i + 1)).v u) :
    (a.put o.dst u).tmps.size = n ∧ (a.put o.dst u).defers = D ∧ (∀ j oj t, ops[j]? = some oj → Ls (listed.setIfInBounds i true) j → oj.dst = some t → ∃ x, (a.put o.dst u).tmps[t]? = some x ∧ VR σ' (st (j + 1)).v x) ∧
      ∀ t v, (∀ j oj, ops[j]? = some oj → Ls (listed.setIfInBounds i true) j → oj.dst ≠ some t) → (st 0).e.get t = some v → ∃ x, (a.put o.dst u).tmps[t]? = some x ∧ VR σ' v x := by
  have hiN := (Array.getElem?_eq_some_iff.1 ho).1
  have hil : i < listed.size := by rw [ri.size]; exact hiN
  have hput := (pl.step i o ho).put
  have hne : ∀ t, o.dst ≠ some t → (a.put o.dst u).tmps[t]? = a.tmps[t]? := fun t ht => by
    cases hd : o.dst with
    | none => rfl
    | some d =>
      have : d ≠ t := fun e => ht (by rw [hd, e])
      simp only [Act.put]
      rw [Array.getElem?_setIfInBounds_ne this]
  have hself : ∀ t, o.dst = some t → (a.put o.dst u).tmps[t]? = some u := fun t ht => by
    rw [ht] at hput ⊢
    rw [mPut_some] at hput
    obtain ⟨h1, _⟩ := bo_inv hput (by simp)
    have := blt_lt h1
    simp only [Act.put]
    rw [Array.getElem?_setIfInBounds_self_of_lt (by rw [ri.tsize]; exact this)]
  refine ⟨by cases hd : o.dst <;> simp [Act.put, ri.tsize], by rw [put_defers]; exact ri.defers, fun j oj t hoj hj hd => ?_, fun t v hno hv0 => ?_⟩
  · by_cases e : j = i
    · subst e
      rw [ho] at hoj; injection hoj with hoj; subst hoj
      exact ⟨u, hself t hd, hv⟩
    · rcases (Ls_set hil).1 hj with h1 | h1
      · exact absurd h1 e
      · obtain ⟨x, hx, hr⟩ := ri.done j oj t hoj h1 hd
        have hdne : o.dst ≠ some t := fun h2 => by
          rcases Nat.lt_or_gt_of_ne e with h3 | h3
          · exact (pl.pair j i oj o h3 hoj ho).1 t hd h2
          · exact (pl.pair i j o oj h3 ho hoj).1 t h2 hd
        exact ⟨x, by rw [hne t hdne]; exact hx, hr.mono hle⟩
  · have hdne : o.dst ≠ some t := hno i o ho ((Ls_set hil).2 (.inl rfl))
    obtain ⟨x, hx, hr⟩ := ri.rest t v (fun j oj hoj hj => hno j oj hoj ((Ls_set hil).2 (.inr hj))) hv0
    exact ⟨x, by rw [hne t hdne]; exact hx, hr.mono hle⟩
theorem RI.closed' (ri : RI G n D ops nx0 st σ0 h0 w0 listed a w σ hs sn) {i : Nat} {o : Oper} (ho : ops[i]? = some o) (hpre : ∀ ed ∈ o.after, Region.binds .any ed = true → Ls listed ed.on) : Closed ops (Ls (listed.setIfInBounds i true)) := by
  have hil : i < listed.size := by rw [ri.size]; exact (Array.getElem?_eq_some_iff.1 ho).1
  intro j oj hoj hj ed hed hb
  rcases (Ls_set hil).1 hj with h1 | h1
  · subst h1
    rw [ho] at hoj; injection hoj with hoj; subst hoj
    exact (Ls_set hil).2 (.inr (hpre ed hed hb))
  · exact (Ls_set hil).2 (.inr (ri.closed j oj hoj h1 ed hed hb))
/-- The memory that an operation leans on is there. -/
theorem RI.lean (ri : RI G n D ops nx0 st σ0 h0 w0 listed a w σ hs sn) (pl : Pl P G n call ops nx0 ms st) {i : Nat} {o : Oper} (ho : ops[i]? = some o) (hpre : ∀ ed ∈ o.after, Region.binds .any ed = true → Ls listed ed.on) : ∀ id B, (dH nx0 (ms i) (st i).F sn).get id = some B → hs id = some B := fun id B h => by
  have hiN := (Array.getElem?_eq_some_iff.1 ho).1
  rcases dH_get h with h1 | ⟨j, h1, h2, h3, h4⟩
  · exact ri.sub id B h1
  · obtain ⟨h5, h6, h7⟩ := pl.Fs i (by omega) h1
    rw [h2]
    exact ri.pend j B (pl.before ri.closed i o ho hpre j h3) h6 h4 h7
theorem snapOf_same {S : Nat → Prop} (h : SnapOf ops st S sn) {i : Nat} (hk : (st (i + 1)).kd ≠ 2) : SnapOf ops st (fun j => j = i ∨ S j) sn := by
  rcases h with ⟨h1, h2⟩ | ⟨b, h1, h2, h3, h4, h5⟩
  · refine .inl ⟨h1, fun b hb hS => ?_⟩
    rcases hS with rfl | hS
    · exact hk
    · exact h2 b hb hS
  · refine .inr ⟨b, h1, .inr h2, h3, h4, fun b' hb hS hkb => ?_⟩
    rcases hS with rfl | hS
    · exact absurd hkb hk
    · exact h5 b' hb hS hkb
theorem snapOf_congr {S S' : Nat → Prop} (h : SnapOf ops st S sn) (hS : ∀ j, S j ↔ S' j) : SnapOf ops st S' sn := by
  have : S = S' := funext fun j => propext (hS j)
  rw [← this]; exact h
/-- One operation more. -/
theorem mOp_nodefer {e : Tb Value} {h h' : Hp} {nx nx' : Nat} {v : Value} {o : Oper} (hm : mOp P G call e h nx o = .ok v h' nx') (c : Call) : o.op ≠ .defer c := fun ho => by
  rw [mOp_eq] at hm
  unfold sOp at hm
  rw [ho] at hm
  cases hm
theorem RI.next {Q : Exit → Act → World → Prop} (hc : CallsOk P G call) (ri : RI G n D ops nx0 st σ0 h0 w0 listed a w σ hs sn) (pl : Pl P G n call ops nx0 ms st) {i : Nat} (hr : i ∈ Region.ready .any ops listed) :
    wpOpIn (rF rd) 2 P ops Q i (fun a' w' => ∃ σ' hs' sn', RI G n D ops nx0 st σ0 h0 w0 (listed.setIfInBounds i true) a' w' σ' hs' sn') a w := by
  obtain ⟨hun, o, ho, hall⟩ := mem_ready.1 hr
  have hpre : ∀ ed ∈ o.after, Region.binds .any ed = true → Ls listed ed.on := fun ed h1 h2 => hall ed h1 h2
  have hiN := (Array.getElem?_eq_some_iff.1 ho).1
  have hS : ¬ Ls listed i := fun h => by unfold Ls at h; rw [getD_both hun] at h; cases h
  have hil : i < listed.size := by rw [ri.size]; exact hiN
  have hset : ∀ j, Ls (listed.setIfInBounds i true) j ↔ j = i ∨ Ls listed j := fun j => Ls_set hil
  have er := ri.look pl ho hS hpre
  have hst := pl.step i o ho
  have hmr := ri.tr.mr
  have hmD : MR G σ (dH nx0 (ms i) (st i).F sn).get sn.nx w := hmr.sub (ri.lean pl ho hpre)
  have hcongr : ∀ hh nn, mOp P G call (st i).e hh nn o = mOp P G call (cutT (st i).e (o.looksAt ops)) hh nn o := fun hh nn => mOp_congr fun x hx => by
    cases x with
    | tmp t =>
      show (st i).e.get t = (cutT (st i).e (o.looksAt ops)).get t
      rw [cutT_get, if_pos]
      unfold Oper.looksAt
      rw [List.mem_append]
      exact .inl (List.mem_filterMap.2 ⟨.tmp t, hx, rfl⟩)
    | _ => rfl
  have hguard : ∀ g b, o.guard = some g → mGuard ops (st i).e g = some b → Region.wanted o (yielded ops a.tmps) = b := fun g b h1 h2 => by
    refine guard_ok er h1 ?_
    rw [← h2]
    refine (mGuard_congr fun d hd => ?_).symm
    rw [cutT_get, if_pos]
    unfold Oper.looksAt
    rw [List.mem_append]
    refine .inr ?_
    obtain ⟨gj, gb⟩ := g
    rw [h1]
    simp only at hd
    simp [hd]
  have keep : ∀ (σ' : Sg) (hs' : Hf) (w' : World) (u : Value), (st (i + 1)).kd ≠ 2 → (st (i + 1)).kd ≠ 1 → Tr G σ hs sn.nx w σ' hs' sn.nx w' → (∀ id B, hs id = some B → hs' id = some B) → VR σ' (st (i + 1)).v u → ∃ σ' hs' sn', RI G n D ops nx0 st σ0 h0 w0 (listed.setIfInBounds i true) (a.put o.dst u) w' σ' hs' sn' := by
    intro σ' hs' w' u hk2 hk1 ht hsub hv
    obtain ⟨s1, s2, s3, s4⟩ := ri.slots pl ho ht.ext hv
    refine ⟨σ', hs', sn, by simp [ri.size], ri.closed' ho hpre, ri.tr.trans ht, fun id B h => hsub id B (ri.sub id B h), fun j B hj hk hm hF => ?_, ri.nmat, fun j hj hnj => ?_, ri.nxle, snapOf_congr (snapOf_same ri.snap hk2) (fun j => (hset j).symm), s1, s2, s3, s4⟩
    · rcases (hset j).1 hj with h1 | h1
      · subst h1; exact absurd hk hk1
      · exact hsub _ _ (ri.pend j B h1 hk hm hF)
    · rw [ht.old (nx0 + j) (by have := ri.nxle; omega)]
      exact ri.res j hj fun h => hnj ((hset j).2 (.inr h))
  unfold wpOpIn
  simp only [ho]
  by_cases hk3 : (st (i + 1)).kd = 3
  · obtain ⟨hv3, g, hg, hgf⟩ := hst.off hk3
    have hw := hguard g false hg hgf
    rw [if_neg (by simp [hw])]
    exact ⟨fun f _ => rF_fn rd f, keep σ hs w undef (by omega) (by omega) (Tr.refl hmr) (fun _ _ h => h) (by rw [hv3]; exact VR.undef)⟩
  · have hw : Region.wanted o (yielded ops a.tmps) = true := by
      rcases hst.on hk3 with h1 | ⟨g, h1, h2⟩
      · simp [Region.wanted, h1]
      · exact hguard g true h1 h2
    rw [if_pos hw]
    have merge : ∀ (σ' : Sg) (h' : Hf) (nx' : Nat) (w' : World), Tr G σ (dH nx0 (ms i) (st i).F sn).get sn.nx w σ' h' nx' w' → Tr G σ hs sn.nx w σ' (fun id => if (h' id).isSome = true then h' id else if ((dH nx0 (ms i) (st i).F sn).get id).isSome = true then none else hs id) nx' w' := fun σ' h' nx' w' t => t.frame hmr (ri.lean pl ho hpre)
    rcases hst.kinds with hk | hk | hk | hk
    · obtain ⟨hdk, _⟩ := hst.still hk
      obtain ⟨h1, n1, hm⟩ := pl.check ri.closed ho hk hS hpre ri.snap
      obtain ⟨rfl, rfl⟩ := still_ok hdk hm
      rw [hcongr] at hm
      refine mOp_wp hc hm er hmD fun σ' u w' hv ht => ?_
      refine keep σ' _ w' u (by omega) (by omega) (merge _ _ _ _ ht) (fun id B hB => ?_) hv
      cases hq : ((dH nx0 (ms i) (st i).F sn).get id) with
      | none => simp [hB]
      | some B' =>
        have := ri.lean pl ho hpre id B' hq
        rw [hB] at this; injection this with this; subst this
        simp
    · obtain ⟨hdk, h', n', B, hm, hB, hF⟩ := hst.fresh hk
      rw [hcongr] at hm
      obtain ⟨L, u, w', hrun, hL, hrest, hsize, hold, hbr⟩ := fresh_ok hdk hm hB σ w a.eval (er.oe hmD)
      refine ⟨fun f _ => rF_fn rd f, ?_⟩
      rw [Oper.semAt_eq _ _ _ (mOp_nodefer hm), hrun, Oper.uponIn_value]
      have hres := ri.res i hiN hS
      have hle : σ.le (fun k => if k = nx0 + i then some L else σ k) := fun k L' hk => by
        by_cases e : k = nx0 + i
        · subst e; rw [hres] at hk; cases hk
        · simp only [if_neg e]; exact hk
      have ht := ri.tr.fresh hres (by omega) (by have := ri.nxle; omega) L B hL hrest hsize hold (fun σ' h1 h2 => (hbr σ' h1 h2).1)
      obtain ⟨s1, s2, s3, s4⟩ := ri.slots pl ho hle (hbr _ hle (by rw [if_pos rfl])).2
      have hnone : hs (nx0 + i) = none := by
        cases hq : hs (nx0 + i) with
        | none => rfl
        | some B' => obtain ⟨L', hL', _⟩ := hmr.blk _ _ hq; rw [hres] at hL'; cases hL'
      refine ⟨_, _, sn, by simp [ri.size], ri.closed' ho hpre, ht, fun id B' h => ?_, fun j B' hj hkj hmj hFj => ?_, ri.nmat, fun j hj hnj => ?_, ri.nxle, snapOf_congr (snapOf_same ri.snap (by omega)) (fun j => (hset j).symm), s1, s2, s3, s4⟩
      · have := ri.sub id B' h
        have hne : id ≠ nx0 + i := fun e => by subst e; rw [hnone] at this; cases this
        rw [if_neg hne]; exact this
      · by_cases e : j = i
        · subst e
          rw [hF] at hFj
          simp only [List.head?_cons, Option.some.injEq, Prod.mk.injEq, true_and] at hFj
          subst hFj
          rw [if_pos rfl]
        · rw [if_neg (by omega)]
          rcases (hset j).1 hj with h1 | h1
          · exact absurd h1 e
          · exact ri.pend j B' h1 hkj hmj hFj
      · have hji : j ≠ i := fun e => hnj ((hset j).2 (.inl e))
        rw [if_neg (by omega)]
        exact ri.res j hj fun h => hnj ((hset j).2 (.inr h))
    · obtain ⟨hm, hmt, hlo, hold, hld, _, _, _⟩ := hst.loud hk
      have hbef := pl.before ri.closed i o ho hpre
      have hmax : ∀ b, b < ops.size → Ls listed b → (st (b + 1)).kd = 2 → b < i := fun b hb hSb hkb => by
        rcases Nat.lt_trichotomy b i with h1 | h1 | h1
        · exact h1
        · subst h1; exact absurd hSb hS
        · exact absurd (pl.before ri.closed b _ (Array.getElem?_eq_getElem hb) (ri.closed b _ (Array.getElem?_eq_getElem hb) hSb) i (pl.chain hk hkb h1 hb)) hS
      have hsn : sn = (st i).cur := by
        rcases ri.snap with ⟨h1, h2⟩ | ⟨b, h1, h2, h3, h4, h5⟩
        · rw [h1]
          exact (pl.cur i (Nat.zero_le _) (by omega) fun e _ he hke => h2 e (by omega) (hbef e (pl.chain hke hk he hiN)) hke).symm
        · rw [h4]
          have hbi := hmax b h1 h2 h3
          exact (pl.cur i (by omega) (by omega) fun e he1 he hke => by
            have := h5 e (by omega) (hbef e (pl.chain hke hk he hiN)) hke
            omega).symm
      rw [← hsn, hcongr] at hm
      refine mOp_wp hc hm er hmD fun σ' u w' hv ht => ?_
      have hmg := merge _ _ _ _ ht
      obtain ⟨s1, s2, s3, s4⟩ := ri.slots pl ho ht.ext hv
      rw [← hsn] at hmt
      have hD : ∀ j, j < ops.size → tb (st (i + 1)).cur.mt j = false → (dH nx0 (ms i) (st i).F sn).get (nx0 + j) = none ∧ (st (i + 1)).cur.h.get (nx0 + j) = none ∧ tb sn.mt j = false := fun j hj hmj => by
        rw [hmt, tb_lor, Bool.or_eq_false_iff] at hmj
        have h1 : (dH nx0 (ms i) (st i).F sn).get (nx0 + j) = none := by
          cases hq : (dH nx0 (ms i) (st i).F sn).get (nx0 + j) with
          | none => rfl
          | some B =>
            rcases dH_get hq with h2 | ⟨j', _, h3, h4, _⟩
            · rw [ri.nmat j hj hmj.1] at h2; cases h2
            · have : j' = j := by omega
              subst this
              rw [hmj.2] at h4; cases h4
        exact ⟨h1, ht.dom _ (by have := ri.nxle; omega) h1, hmj.1⟩
      refine ⟨σ', _, (st (i + 1)).cur, by simp [ri.size], ri.closed' ho hpre, ri.tr.trans hmg, fun id B h => ?_, fun j B hj hkj hmj hFj => ?_, fun j hj hmj => (hD j hj hmj).2.1, fun j hj hnj => ?_, ?_, ?_, s1, s2, s3, s4⟩
      · have : ((st (i + 1)).cur.h.get id).isSome = true := by rw [h]; rfl
        rw [if_pos this]; exact h
      · have hji : j ≠ i := fun e => by subst e; omega
        rcases (hset j).1 hj with h1 | h1
        · exact absurd h1 hji
        · have hjN : j < ops.size := by
            rcases Nat.lt_or_ge j ops.size with h2 | h2
            · exact h2
            · unfold Ls at h1; rw [← ri.size] at h2; simp [Array.getElem?_eq_none h2] at h1
          obtain ⟨d1, d2, d3⟩ := hD j hjN hmj
          rw [d2, d1]
          simp only [Option.isSome_none, Bool.false_eq_true, if_false]
          exact ri.pend j B h1 hkj d3 hFj
      · rw [ht.old (nx0 + j) (by have := ri.nxle; omega)]
        exact ri.res j hj fun h => hnj ((hset j).2 (.inr h))
      · have := ri.nxle; have := ht.le; omega
      · refine .inr ⟨i, hiN, (hset i).2 (.inl rfl), hk, rfl, fun b hb hSb hkb => ?_⟩
        rcases (hset b).1 hSb with h1 | h1
        · omega
        · have := hmax b hb h1 hkb; omega
    · exact absurd hk hk3
/-- How many are left. -/
def left (listed : Array Bool) : Nat := listed.toList.countP (fun b => !b)
theorem left_set {i : Nat} (hi : i < listed.size) (hS : ¬ Ls listed i) : left (listed.setIfInBounds i true) + 1 = left listed := by
  have hf : listed.toList[i]? = some false := by
    unfold Ls at hS
    rw [Array.getElem?_toList, Array.getElem?_eq_getElem hi]
    congr 1
    cases hq : listed[i] with
    | false => rfl
    | true => exact absurd (by simp [hi, hq]) hS
  have key : ∀ (l : List Bool) (i : Nat), l[i]? = some false → (l.set i true).countP (fun b => !b) + 1 = l.countP (fun b => !b) := by
    intro l
    induction l with
    | nil => intro i h; simp at h
    | cons x l ih =>
      intro i h
      cases i with
      | zero =>
        simp only [List.getElem?_cons_zero, Option.some.injEq] at h
        subst h; simp
      | succ i =>
        rw [List.getElem?_cons_succ] at h
        rw [List.set_cons_succ, List.countP_cons, List.countP_cons, ← ih i h]
        omega
  unfold left
  rw [Array.toList_setIfInBounds]
  exact key _ i hf
theorem all_listed (hl : left listed = 0) {i : Nat} (hi : i < listed.size) : Ls listed i := by
  by_cases h : Ls listed i
  · exact h
  · have := left_set hi h; omega
/-- All are done. -/
theorem RI.final (ri : RI G n D ops nx0 st σ0 h0 w0 listed a w σ hs sn) (pl : Pl P G n call ops nx0 ms st) (hall : ∀ i, i < ops.size → Ls listed i) :
    Tr G σ0 h0 nx0 w0 σ (dHall nx0 (st ops.size).F (st ops.size).cur).get (st ops.size).cur.nx w ∧ ER σ n (st ops.size).e a ∧ a.defers = D := by
  have hsn : sn = (st ops.size).cur := by
    rcases ri.snap with ⟨h1, h2⟩ | ⟨b, h1, h2, h3, h4, h5⟩
    · rw [h1]
      exact (pl.cur ops.size (Nat.zero_le _) (Nat.le_refl _) fun e _ he => h2 e he (hall e he)).symm
    · rw [h4]
      exact (pl.cur ops.size (by omega) (Nat.le_refl _) fun e he1 he hke => by have := h5 e he (hall e he) hke; omega).symm
  rw [← hsn]
  refine ⟨ri.tr.trans (Tr.sub ri.tr.mr fun id B h => ?_), ⟨ri.tsize, fun t v hv => ?_⟩, ri.defers⟩
  · rcases dHall_get h with h1 | ⟨j, h1, h2, h3⟩
    · exact ri.sub id B h1
    · obtain ⟨h5, h6, h7⟩ := pl.Fs ops.size (Nat.le_refl _) h1
      rw [h2]
      exact ri.pend j B (hall j h5) h6 h3 h7
  · rcases pl.env t ops.size (Nat.le_refl _) with ⟨j, oj, h1, h2, h3, h4⟩ | ⟨h1, h2⟩
    · rw [h4] at hv; injection hv with hv; subst hv
      exact ri.done j oj t h2 (hall j h1) h3
    · rw [h2] at hv
      exact ri.rest t v (fun j oj hoj _ => h1 j oj (Array.getElem?_eq_some_iff.1 hoj).1 hoj) hv
theorem ready_nil (pl : Pl P G n call ops nx0 ms st) (hsz : listed.size = ops.size) (hr : Region.ready .any ops listed = []) : ∀ i, i < ops.size → Ls listed i := by
  intro i
  induction i using Nat.strongRecOn with
  | _ i ih =>
    intro hi
    by_cases h : Ls listed i
    · exact h
    · exfalso
      have ho := Array.getElem?_eq_getElem hi
      have : i ∈ Region.ready .any ops listed := mem_ready.2 ⟨getD_in (by omega) (by unfold Ls at h; simpa using h), _, ho, fun ed h1 h2 => by
        have hlt := pl.back i _ ho ed h1 h2
        exact ih ed.on hlt (by omega)⟩
      rw [hr] at this; cases this
theorem RI.sim {Q : Exit → Act → World → Prop} (hc : CallsOk P G call) (pl : Pl P G n call ops nx0 ms st) (hQ : ∀ σ' w' a', Tr G σ0 h0 nx0 w0 σ' (dHall nx0 (st ops.size).F (st ops.size).cur).get (st ops.size).cur.nx w' → ER σ' n (st ops.size).e a' → a'.defers = D → Q .normal a' w') :
    ∀ (f : Nat) {listed : Array Bool} {a : Act} {w : World} {σ : Sg} {hs : Hf} {sn : Snap}, RI G n D ops nx0 st σ0 h0 w0 listed a w σ hs sn → left listed = f → wpAnyIn (rF rd) 2 P .any ops Q f listed a w
  | 0, listed, a, w, σ, hs, sn, ri, hl => by
    have hall : ∀ i, i < ops.size → Ls listed i := fun i hi => all_listed hl (by rw [ri.size]; exact hi)
    obtain ⟨h1, h2, h3⟩ := ri.final pl hall
    refine ⟨?_, hQ σ w a h1 h2 h3⟩
    cases hr : Region.ready .any ops listed with
    | nil => rfl
    | cons i r =>
      obtain ⟨hun, o, ho, _⟩ := mem_ready.1 (show i ∈ Region.ready .any ops listed by rw [hr]; simp)
      have := hall i (Array.getElem?_eq_some_iff.1 ho).1
      unfold Ls at this; rw [getD_both hun] at this; cases this
  | f + 1, listed, a, w, σ, hs, sn, ri, hl => by
    refine ⟨fun hr => ?_, fun i hi => ?_⟩
    · obtain ⟨h1, h2, h3⟩ := ri.final pl (ready_nil pl ri.size hr)
      exact hQ σ w a h1 h2 h3
    · refine wpOpIn_mono (fun a' w' h => ?_) (ri.next hc pl hi)
      obtain ⟨σ', hs', sn', ri'⟩ := h
      obtain ⟨hun, o, ho, _⟩ := mem_ready.1 hi
      have hS : ¬ Ls listed i := fun h => by unfold Ls at h; rw [getD_both hun] at h; cases h
      have := left_set (listed := listed) (i := i) (by rw [ri.size]; exact (Array.getElem?_eq_some_iff.1 ho).1) hS
      exact RI.sim hc pl hQ f ri' (by omega)
end
/-- A region that draws its order. -/
theorem draw_ok {P : Program} {G : Nat} (hm : P.follows .mixedOrders = true) (call : CallF) (n : Nat) (hc : CallsOk P G call) : RegOk P G n (mDraw P G n call) := by
  intro rd id ops e h nx σ a w Q b0 er m mk hb0 hp
  have hp' : Post G n b0 σ h nx w Q (bo (dStat ops (ops.toList.zip (masks ops.toList [])) 0 []) (oo (dGo P G n call ops nx (ops.toList.zip (masks ops.toList [])) 0 ⟨e, [], ⟨h, nx + ops.toList.length, 0, none⟩, [], [], [], undef, 3⟩) .bad (fun s => .nrm s.e (dHall nx s.F s.cur) s.cur.nx)) .bad) := hp
  cases h1 : dStat ops (ops.toList.zip (masks ops.toList [])) 0 [] with
  | false => rw [h1] at hp'; exact hp'.elim
  | true =>
    rw [h1, bo_true] at hp'
    cases h2 : dGo P G n call ops nx (ops.toList.zip (masks ops.toList [])) 0 ⟨e, [], ⟨h, nx + ops.toList.length, 0, none⟩, [], [], [], undef, 3⟩ with
    | none => rw [h2] at hp'; exact hp'.elim
    | some sN =>
      rw [h2, oo_some] at hp'
      obtain ⟨ms, st, pl, hs0, hsN⟩ := pl_of h1 h2
      refine wpIn_region_any hm ?_
      have m' : MR G σ h.get nx w.drew := m.drew
      have hlist : ∀ i, ¬ Ls (Array.replicate ops.size false) i := fun i hi => by unfold Ls at hi; rw [getD_replicate_false] at hi; cases hi
      have ri : RI G n a.defers ops nx st σ h.get w.drew (Array.replicate ops.size false) a w.drew σ h.get (st 0).cur := by
        rw [hs0]
        have tr : Tr G σ h.get nx w.drew σ h.get (nx + ops.toList.length) w.drew :=
          { Tr.refl m' with
            le := by omega
            mr := ⟨m'.blk, m'.sep, fun i hi => m'.free i (by omega), m'.glob, by have := m'.gle; omega⟩ }
        refine ⟨by simp, fun j o _ hj => absurd hj (hlist j), tr, fun _ _ h => h, fun j B hj => absurd hj (hlist j), fun j hj _ => ?_, fun j hj _ => m'.free _ (by omega), by simp, .inl ⟨by rw [hs0], fun b _ hb => absurd hb (hlist b)⟩, er.size, rfl, fun j o t _ hj => absurd hj (hlist j), fun t v _ hv => ?_⟩
        · cases hq : h.get (nx + j) with
          | none => rfl
          | some B => obtain ⟨L, hL, _⟩ := m'.blk _ _ hq; rw [m'.free _ (by omega)] at hL; cases hL
        · rw [hs0] at hv; exact er.get t v hv
      refine RI.sim hc pl (fun σ' w' a' ht er' hdf => ?_) ops.size ri ?_
      · rw [hsN] at ht er'
        exact hp' σ' w' a' ht.drew er' (by rw [hdf]; exact mk.tr ht.drew)
      · unfold left; simp [List.countP_replicate]
/-- All calls of the machine stand for the model's. -/
noncomputable def mRun (P : Program) (G fuel : Nat) (base : CallF) (d : Nat) : CallF := mCalls P G fuel (fun call n => mDraw P G n call) base d
theorem run_ok {P : Program} {G fuel d : Nat} {base : CallF} (hm : P.follows .mixedOrders = true) (hb : CallOk P G base) : CallsOk P G (mRun P G fuel base d) := calls_ok hb (fun call n hc => draw_ok hm call n hc) d
theorem none_ok {P : Program} {G : Nat} : CallOk P G (fun _ _ _ _ => .bad) := fun f args h nx v h' nx' hm => by cases hm
end Go.Proofs.YthdlljlcffokbaaDoor
namespace Go.Proofs.YthdlljlcffokbaaDoor
open Go.RowKit

/-- It comes to true. -/
noncomputable def okTrue (r : OR) : Bool := @OR.rec (fun _ => Bool) false (fun v _ _ => match v with | .bool b => b | _ => false) r
theorem okTrue_inv {r : OR} (h : okTrue r = true) : ∃ h' nx', r = .ok (.bool true) h' nx' := by
  cases r with
  | bad => cases h
  | ok v h' nx' =>
    cases v with
    | bool b => cases b with
      | true => exact ⟨h', nx', rfl⟩
      | false => cases h
    | _ => cases h
/-- The places of the package-level variables. -/
def gSg (G : Nat) : Sg := fun id => if id < G then some ⟨id, 0, 0⟩ else none
theorem mr0 (G : Nat) (w : World) : MR G (gSg G) (Tb.lf : Hp).get G w :=
  ⟨fun id B h => by (rw [Tb.get_lf] at h; cases h), fun id id' L L' h => by (rw [Tb.get_lf] at h; cases h), fun id h => by unfold gSg; rw [if_neg (by omega)], fun g hg => ⟨0, by unfold gSg; rw [if_pos hg]⟩, Nat.le_refl _⟩
/-- A closed call that the machine brings to true returns true, and old memory stands. -/
theorem closed_ok {P : Program} {G f : Nat} {call : CallF} (hc : CallsOk P G call) (hf : Nat.blt f P.funcs.size = true) (hr : okTrue (call f [] .lf G) = true) (w : World) : Calls P f #[] w fun x w' => x = .returned (.bool true) ∧ Fr0 w w' := by
  obtain ⟨h', nx', h1⟩ := okTrue_inv hr
  refine (hc.fn f [] .lf G _ h' nx' (blt_lt hf) h1 (gSg G) w [] .nil (mr0 G w)).mono fun x w' ⟨σ', u, hx, hv, ht⟩ => ?_
  have := hv.scal_inv rfl
  subst this
  exact ⟨hx, ht.os, ht.tape, ht.output, ht.size, fun r hr _ => ht.fr r hr fun id L h => by (rw [Tb.get_lf] at h; cases h)⟩
/-- Where old memory stands, what is known of it stands. -/
theorem Tr.of_fr0 {G : Nat} {σ : Sg} {h : Hf} {nx : Nat} {w w' : World} (m : MR G σ h nx w) (hf : Fr0 w w') : Tr G σ h nx w σ h nx w' where
  le := Nat.le_refl _
  ext := Sg.le.refl σ
  old _ _ := rfl
  mr := ⟨fun id B hb => let ⟨L, h1, h2⟩ := m.blk id B hb; ⟨L, h1, h2.keep (Sg.le.refl σ) (hf.block L.blk h2.lt (fun hh => hh))⟩, m.sep, m.free, m.glob, m.gle⟩
  os := hf.os
  tape := hf.tape
  output := hf.output
  size := hf.size
  fr r hr _ := hf.block r hr (fun hh => hh)
  src id L hi hs := .inr ⟨id, L, hi, hs, rfl⟩
  dom _ _ h := h
  qt r hr hq := ⟨hf.block r hr (fun hh => hh), hq⟩
/-- A function of which it is known that it returns true; all others are left to another. -/
noncomputable def known (f : Nat) (rest : CallF) : CallF := fun f' args h nx =>
  bo (Nat.beq f' f) (bo args.isEmpty (.ok (.bool true) h nx) .bad) (rest f' args h nx)
noncomputable def noCall : CallF := fun _ _ _ _ => .bad
theorem noCall_ok {P : Program} {G : Nat} : CallOk P G noCall := none_ok
end Go.Proofs.YthdlljlcffokbaaDoor
namespace Go.Proofs.YthdlljlcffokbaaDoor
open Go.RowKit

/-- An owned row, behind a call that leaves old memory. -/
theorem own_adopt {G nx : Nat} {σ : Sg} {h : Hp} {w w' : World} {el n : Nat} {u : Value} {cs xs : List Value} (m : MR G σ h.get nx w) (hf : Fr0 w w') (hn : 0 < n) (ho : w'.ownsRow w.heap.size el 1 u n xs) (hv : VRs σ cs xs) :
    ∃ σ', VR σ' (.slice (some ⟨nx, 0, some 1⟩) n 0) u ∧ Tr G σ h.get nx w σ' (h.put nx (.cells el cs.length 0 (Tb.of cs))).get (nx + 1) w' := by
  obtain ⟨hlen, ho⟩ := ho
  rcases ho with ⟨_, h0⟩ | ⟨g, cap, cur, rfl, hg, hb, hcap, hmax, hsz, hcells⟩
  · omega
  · have hcell : ∀ (σ' : Sg), σ.le σ' → ∀ (i : Nat) (v : Value), (Tb.of cs).get i = some v → ∃ x, cur[0 + i]? = some x ∧ VR σ' v x := fun σ' hs i v hi => by
      rw [Tb.get_of] at hi
      obtain ⟨x, hx, hr⟩ := hv.get hi
      refine ⟨x, ?_, hr.mono hs⟩
      rw [Nat.zero_add]
      rw [← hcells, List.getElem?_take] at hx
      split at hx
      · simpa using hx
      · cases hx
    have hbr : ∀ σ' : Sg, σ.le σ' → BR σ' ⟨g, 0, cur.size⟩ w' (.cells el cs.length 0 (Tb.of cs)) := fun σ' hs =>
      ⟨cur, (0, 0), hb, rfl, by have := hv.len; simp; omega, fun i => by rw [Tb.get_of]; simp, hcell σ' hs, fun _ => .inl rfl⟩
    have ht := m.adopt (w' := w') ⟨g, 0, cur.size⟩ (.cells el cs.length 0 (Tb.of cs)) hg ⟨hf.os, hf.tape, hf.output⟩ hf.size (fun r hr => hf.block r hr (fun hh => hh)) hbr
    rw [Tb.put_fun]
    refine ⟨_, .slo (L := ⟨g, 0, cur.size⟩) (by simp) hcap (by simp; omega) .nil, ht⟩
end Go.Proofs.YthdlljlcffokbaaDoor
namespace Go.Proofs.YthdlljlcffokbaaDoor
open Go.RowKit

/-- Bytes of cells. -/
noncomputable def rdB : List Value → Option (List UInt8)
  | [] => some []
  | .int .u8 (.ofNat n) :: r => bo (Nat.blt n 256) (oo (rdB r) none (fun l => some (UInt8.ofNat n :: l))) none
  | _ :: _ => none
theorem rdB_ok : ∀ {l : List Value} {bs : List UInt8}, rdB l = some bs → l = bvs bs
  | [], bs, h => by injection h with h; subst h; rfl
  | v :: r, bs, h => by
    unfold rdB at h
    split at h
    · rename_i h1; cases h1
    · rename_i n r' h1
      injection h1 with h1 h2; subst h1; subst h2
      obtain ⟨hn, h⟩ := bo_inv h (by simp)
      obtain ⟨l, hl, h⟩ := oo_inv h (by simp)
      injection h with h; subst h
      have hn := blt_lt hn
      rw [rdB_ok hl]
      have : bv (UInt8.ofNat n) = .int .u8 (.ofNat n) := by
        unfold bv
        rw [UInt8.toNat_ofNat', Nat.mod_eq_of_lt (by simpa using hn)]
        rfl
      show _ = bv (UInt8.ofNat n) :: bvs l
      rw [this]
    · cases h
theorem bv_scal (c : UInt8) {σ : Sg} {x : Value} (h : VR σ (bv c) x) : x = bv c := h.scal_inv rfl
def isOpen : Option Addr → Bool
  | some ⟨_, _, some _⟩ => true
  | _ => false
/-- A slice of bytes, read. -/
theorem rd_of {G nx : Nat} {σ : Sg} {h : Hp} {w : World} (m : MR G σ h.get nx w) {a : Option Addr} {len cap : Nat} {u : Value} {cs : List Value} {bs : List UInt8} (hu : VR σ (.slice a len cap) u) (hs : srcCells h 1 len (.slice a len cap) = some cs) (hb : rdB cs = some bs) :
    ∃ A c', u = .slice A len c' ∧ Rd w A len (bvs bs) ∧ (len ≤ c' ∨ (c' = cap ∧ isOpen a = false)) := by
  have hcs := rdB_ok hb
  unfold srcCells at hs
  cases a with
  | none =>
    obtain ⟨hn, hs⟩ := bo_inv hs (by simp)
    obtain rfl := Nat.eq_of_beq_eq_true hn
    injection hs with hs; subst hs
    rw [← hcs]
    exact ⟨none, cap, hu.scal_inv rfl, Rd.nil, .inr ⟨rfl, rfl⟩⟩
  | some a =>
    obtain ⟨id, off, sp⟩ := a
    obtain ⟨_, hs⟩ := bo_inv (show bo (Nat.ble len len) _ none = some cs from hs) (by simp)
    split at hs
    · rename_i el n k c hblk
      rw [Nat.mul_one] at hs
      have hlen := ldN_length c len off hs
      have key : ∀ L, σ id = some L → Rd w (some ⟨L.blk, L.base + off, none⟩) len (bvs bs) := fun L hL => by
        rw [← hcs]
        refine ⟨hlen, fun _ => ⟨L.blk, L.base + off, rfl, fun j x hj => ?_⟩⟩
        have hjl : j < len := by rw [← hlen]; exact (List.getElem?_eq_some_iff.1 hj).1
        have hg := ldN_get c len off hs j hjl
        rw [hj] at hg
        obtain ⟨x', h1, h2⟩ := m.cell hblk hL hg
        have hx : x ∈ bvs bs := by rw [← hcs]; exact List.mem_of_getElem? hj
        obtain ⟨b, _, rfl⟩ := List.mem_map.1 hx
        rw [bv_scal b h2] at h1
        rw [Nat.add_assoc]; exact h1
      cases sp with
      | none =>
        obtain ⟨L, hL, rfl⟩ := hu.sl_inv
        exact ⟨_, _, rfl, key L hL, .inr ⟨rfl, rfl⟩⟩
      | some z =>
        cases hu with
        | sc _ hs _ => cases hs
        | slo hL hle _ _ => exact ⟨_, _, rfl, key _ hL, .inl hle⟩
        | sle hL _ _ => exact ⟨_, _, rfl, ⟨by rw [← hcs]; exact hlen, fun h => absurd h (by omega)⟩, .inl (Nat.zero_le _)⟩
    · obtain ⟨hn, hs⟩ := bo_inv hs (by simp)
      obtain rfl := Nat.eq_of_beq_eq_true hn
      injection hs with hs; subst hs
      rw [← hcs]
      cases sp with
      | none =>
        obtain ⟨L, hL, rfl⟩ := hu.sl_inv
        exact ⟨_, _, rfl, Rd.nil, .inr ⟨rfl, rfl⟩⟩
      | some z =>
        obtain ⟨L, A, c', hL, rfl, _⟩ := hu.slice_any
        exact ⟨_, _, rfl, Rd.nil, .inl (Nat.zero_le _)⟩
/-- The sum, byte by byte, each looked at. -/
noncomputable def fnvS {β : Type} (l : List UInt8) : Nat → (Nat → β) → β :=
  @List.rec UInt8 (fun _ => Nat → (Nat → β) → β) (fun s f => f s) (fun c _ ih s f => natS (Nat.mod (Nat.mul (Nat.xor s c.toNat) 1099511628211) 18446744073709551616) (fun s => ih s f)) l
theorem fnvS_eq {β : Type} : ∀ (l : List UInt8) (s : Nat) (f : Nat → β), fnvS l s f = f (fnv s l)
  | [], _, _ => rfl
  | c :: l, s, f => by
    show natS (Nat.mod (Nat.mul (Nat.xor s c.toNat) 1099511628211) 18446744073709551616) (fun s => fnvS l s f) = _
    rw [natS_eq, fnvS_eq l]
    rfl
noncomputable def sumS {β : Type} (n : Nat) (t : List UInt8) (f : Nat → β) : β := fnvS (be8 n) fnv0 (fun s => fnvS t s f)
theorem sumS_eq {β : Type} (n : Nat) (t : List UInt8) (f : Nat → β) : sumS n t f = f (pageSum n t) := by
  unfold sumS; rw [fnvS_eq, fnvS_eq]; rfl
/-- page.Encode, where it makes a page; all else is left to another. -/
noncomputable def encK (rest : CallF) : CallF := fun f args h nx =>
  bo (Nat.beq f 59) (match args with
    | [.int .i64 (.ofNat n), .slice a len cap] => oo (srcCells h 1 len (.slice a len cap)) (rest f args h nx) (fun cs => oo (rdB cs) (rest f args h nx) (fun bs =>
      bo (Nat.ble n 16383 && Nat.ble len 502) (sumS n (tailOf bs) (fun s => newB h nx (.cells 5 (bvs (be8 s ++ tailOf bs)).length 0 (Tb.of (bvs (be8 s ++ tailOf bs)))) (.tuple ⟨[.slice (some ⟨nx, 0, some 1⟩) 512 0, .int .i64 0]⟩))) (rest f args h nx)))
    | _ => rest f args h nx) (rest f args h nx)
theorem encK_ok {G : Nat} {rest : CallF} (hr : CallOk Tryd.prog G rest) : CallOk Tryd.prog G (encK rest) := by
  intro f args h nx v h' nx' hm σ w us hv m
  have old : rest f args h nx = .ok v h' nx' → Calls Tryd.prog f ⟨us⟩ w fun x w' => ∃ σ' u, x = .returned u ∧ VR σ' v u ∧ Tr G σ h.get nx w σ' h'.get nx' w' := fun hm => hr f args h nx v h' nx' hm σ w us hv m
  unfold encK at hm
  cases hq : Nat.beq f 59 with
  | false => rw [hq] at hm; exact old hm
  | true =>
    rw [hq, bo_true] at hm
    obtain rfl := Nat.eq_of_beq_eq_true hq
    split at hm
    · rename_i n a len cap
      cases hs : srcCells h 1 len (.slice a len cap) with
      | none => rw [hs] at hm; exact old hm
      | some cs =>
        rw [hs, oo_some] at hm
        cases hb : rdB cs with
        | none => rw [hb] at hm; exact old hm
        | some bs =>
          rw [hb, oo_some] at hm
          cases hc : (Nat.ble n 16383 && Nat.ble len 502) with
          | false => rw [hc] at hm; exact old hm
          | true =>
            rw [hc, bo_true] at hm
            simp only [Bool.and_eq_true] at hc
            have h1 := Nat.le_of_ble_eq_true hc.1
            have h2 := Nat.le_of_ble_eq_true hc.2
            rw [sumS_eq, show be8 (pageSum n (tailOf bs)) ++ tailOf bs = pageOf n bs from rfl] at hm
            obtain ⟨rfl, rfl, rfl⟩ := newB_inv hm
            obtain ⟨x, us', rfl, hx, hv⟩ := hv.inv
            obtain ⟨y, us', rfl, hy, hv⟩ := hv.inv
            obtain rfl := hv.inv_nil
            obtain rfl := hx.scal_inv rfl
            obtain ⟨A, c', rfl, hrd, _⟩ := rd_of m hy hs hb
            refine (encode_ok n A len c' bs w h1 h2 hrd).mono fun x w' ⟨u, hx, ho, hf⟩ => ?_
            have hvs : VRs σ (bvs (pageOf n bs)) (bvs (pageOf n bs)) := VRs.of_get rfl fun i x hx => ⟨x, hx, by
              obtain ⟨b, _, rfl⟩ := List.mem_map.1 (List.mem_of_getElem? hx)
              exact VR.int⟩
            obtain ⟨σ', h3, h4⟩ := own_adopt m hf (by omega) ho hvs
            exact ⟨σ', _, hx, .tuple (xs := [_, _]) (ys := [_, _]) (.cons h3 (.cons VR.int .nil)) .nil, h4⟩
    · exact old hm
/-- A page that is in order. -/
noncomputable def pgOk (n : Nat) (p : List UInt8) : Bool :=
  sumS n (p.drop 8) (fun s => byEq (be8 s ++ p.drop 8) p) && (p.drop (10 + longOf p)).all fun c => Nat.beq c.toNat 0
theorem pgOk_inv {n : Nat} {p : List UInt8} (h : pgOk n p = true) : be8 (pageSum n (p.drop 8)) ++ p.drop 8 = p ∧ ∀ c ∈ p.drop (10 + longOf p), c = 0 := by
  unfold pgOk at h
  rw [sumS_eq, Bool.and_eq_true, byEq_ok, List.all_eq_true] at h
  refine ⟨by simpa using h.1, fun c hc => ?_⟩
  have := Nat.eq_of_beq_eq_true (h.2 c hc)
  exact UInt8.toNat_inj.1 this
/-- page.Decode, where the page is in order and not empty; all else is left to another. -/
noncomputable def decK (rest : CallF) : CallF := fun f args h nx =>
  bo (Nat.beq f 64) (match args with
    | [.int .i64 (.ofNat n), .slice a len cap] => oo (srcCells h 1 len (.slice a len cap)) (rest f args h nx) (fun cs => oo (rdB cs) (rest f args h nx) (fun bs =>
      bo (Nat.ble n 16383 && (Nat.beq len 512 && ((isOpen a || Nat.ble len cap) && (Nat.blt 0 (longOf bs) && (Nat.ble (longOf bs) 502 && pgOk n bs)))))
        (newB h nx (.cells 5 (bvs ((bs.drop 10).take (longOf bs))).length 0 (Tb.of (bvs ((bs.drop 10).take (longOf bs))))) (.tuple ⟨[.slice (some ⟨nx, 0, some 1⟩) (longOf bs) 0, .int .i64 0]⟩)) (rest f args h nx)))
    | _ => rest f args h nx) (rest f args h nx)
theorem decK_ok {G : Nat} {rest : CallF} (hr : CallOk Tryd.prog G rest) : CallOk Tryd.prog G (decK rest) := by
  intro f args h nx v h' nx' hm σ w us hv m
  have old : rest f args h nx = .ok v h' nx' → Calls Tryd.prog f ⟨us⟩ w fun x w' => ∃ σ' u, x = .returned u ∧ VR σ' v u ∧ Tr G σ h.get nx w σ' h'.get nx' w' := fun hm => hr f args h nx v h' nx' hm σ w us hv m
  unfold decK at hm
  cases hq : Nat.beq f 64 with
  | false => rw [hq] at hm; exact old hm
  | true =>
    rw [hq, bo_true] at hm
    obtain rfl := Nat.eq_of_beq_eq_true hq
    split at hm
    · rename_i n a len cap
      cases hs : srcCells h 1 len (.slice a len cap) with
      | none => rw [hs] at hm; exact old hm
      | some cs =>
        rw [hs, oo_some] at hm
        cases hb : rdB cs with
        | none => rw [hb] at hm; exact old hm
        | some bs =>
          rw [hb, oo_some] at hm
          cases hc : (Nat.ble n 16383 && (Nat.beq len 512 && ((isOpen a || Nat.ble len cap) && (Nat.blt 0 (longOf bs) && (Nat.ble (longOf bs) 502 && pgOk n bs))))) with
          | false => rw [hc] at hm; exact old hm
          | true =>
            rw [hc, bo_true] at hm
            simp only [Bool.and_eq_true] at hc
            have h1 := Nat.le_of_ble_eq_true hc.1
            obtain rfl := Nat.eq_of_beq_eq_true hc.2.1
            have h3 := hc.2.2.1
            have h4 := blt_lt hc.2.2.2.1
            have h5 := Nat.le_of_ble_eq_true hc.2.2.2.2.1
            obtain ⟨h6, h7⟩ := pgOk_inv hc.2.2.2.2.2
            obtain ⟨rfl, rfl, rfl⟩ := newB_inv hm
            obtain ⟨x, us', rfl, hx, hv⟩ := hv.inv
            obtain ⟨y, us', rfl, hy, hv⟩ := hv.inv
            obtain rfl := hv.inv_nil
            obtain rfl := hx.scal_inv rfl
            obtain ⟨A, c', rfl, hrd, hcap⟩ := rd_of m hy hs hb
            have hcap : 512 ≤ c' := by
              rcases hcap with hcap | ⟨rfl, ho⟩
              · exact hcap
              · rw [ho, Bool.false_or] at h3; exact Nat.le_of_ble_eq_true h3
            obtain ⟨b, off, rfl, _⟩ := hrd.2 (by omega)
            have hp : bs.length = 512 := by rw [← bvs_length, hrd.1]
            refine (decode_ok n b off c' bs w h1 hp hcap hrd ⟨h5, h6, h7⟩).mono fun x w' ⟨⟨u, hx, ho⟩, hf⟩ => ?_
            have hvs : VRs σ (bvs ((bs.drop 10).take (longOf bs))) (bvs ((bs.drop 10).take (longOf bs))) := VRs.of_get rfl fun i x hx => ⟨x, hx, by
              obtain ⟨b, _, rfl⟩ := List.mem_map.1 (List.mem_of_getElem? hx)
              exact VR.int⟩
            obtain ⟨σ', h8, h9⟩ := own_adopt m hf h4 ho hvs
            exact ⟨σ', _, hx, .tuple (xs := [_, _]) (ys := [_, _]) (.cons h8 (.cons VR.int .nil)) .nil, h9⟩
    · exact old hm
end Go.Proofs.YthdlljlcffokbaaDoor
namespace Go.Proofs.YthdlljlcffokbaaDoor
open Go.RowKit

theorem mixed : Tryd.prog.follows .mixedOrders = true := by kernel_rfl
theorem awake_run : okTrue (mRun Tryd.prog Tryd.prog.globals.size 100000 (encK (decK noCall)) 60 6 [] .lf Tryd.prog.globals.size) = true := by kernel_rfl
theorem awake_calls (w : World) : Calls Tryd.prog 6 #[] w fun x w' => x = .returned (.bool true) ∧ Fr0 w w' := closed_ok (run_ok mixed (encK_ok (decK_ok noCall_ok))) (by kernel_rfl) awake_run w
end Go.Proofs.YthdlljlcffokbaaDoor
namespace Go.Proofs.YthdlljlcffokbaaDoor
open Go.ChangeShapes Go.WideShapes Go.ChangeAt Go.RowKit Go.Deep

section
variable {H : Type} {enc : TypeId × Value → H} {P : Program} {w : World}
/-- An element of a slice reads as data. -/
def Reads (enc : TypeId × Value → H) (P : Program) (w : World) (t : TypeId) (r : List Value) (d : DataW H) : Prop := ∃ n p, DataW.trod enc P w 0 (fun _ => true) true n t r = some (d, p)
theorem rd_slice {t e sz len cap fuel : Nat} {A : Option Addr} {x : DataW H × List MemPlace} (ht : P.underlying t = some (.slice e)) (hc : P.cellsOf e = sz) (hpos : 0 < sz)
    (h : DataW.trod enc P w 0 (fun _ => true) true fuel t [.slice A len cap] = some x) :
    ∃ (rows : List (List Value)) (D : List (DataW H)), rows.length = len ∧ D.length = len ∧ All sz rows ∧ Rd w A (len * sz) rows.flatten ∧ len ≤ cap ∧ cap ≤ maxLen ∧ (A = none → cap = 0) ∧
      (∀ (i : Nat) (r : List Value), rows[i]? = some r → ∃ d, D[i]? = some d ∧ Reads enc P w e r d) ∧ ((x.1 = .nil ∧ len = 0 ∧ cap = 0) ∨ ∃ sp, x.1 = .slice D sp ∧ sp.length = cap - len) := by
  rcases open_slice ht h with ⟨hcs, rfl⟩ | ⟨a, len', cap', m, n, D, Pl, hcs, _, hl, hm, hmm, rfl, hx⟩
  · simp only [List.cons.injEq, Value.slice.injEq, and_true] at hcs
    obtain ⟨rfl, rfl, rfl⟩ := hcs
    exact ⟨[], [], rfl, rfl, All.nil, by rw [Nat.zero_mul]; exact Rd.nil, Nat.le_refl _, Nat.zero_le _, fun _ => rfl, fun i r hr => by simp at hr, .inl ⟨rfl, rfl, rfl⟩⟩
  · simp only [List.cons.injEq, Value.slice.injEq, and_true] at hcs
    obtain ⟨rfl, rfl, rfl⟩ := hcs
    simp only [if_true] at hmm
    subst hmm
    obtain ⟨C, hC⟩ := choose_lt (α := List Value) (p := fun i cs => w.cells? 0 (a.add (i * P.cellsOf e)) (P.cellsOf e) = some cs ∧ DataW.trod enc P w 0 (fun _ => true) true n e cs = some (D i, Pl i)) (fun i hi => hx i hi)
    rw [hc] at hC
    have hrow : ∀ i, i < len → (C i).length = sz := fun i hi => (World.cells?_some (hC i (by omega)).1).2.1
    have hall : All sz ((List.range len).map C) := by
      intro r hr
      obtain ⟨i, hi, rfl⟩ := List.mem_map.1 hr
      exact hrow i (List.mem_range.1 hi)
    refine ⟨(List.range len).map C, (List.range len).map D, by simp, by simp, hall, ⟨by rw [flat_length hall]; simp, fun h0 => ?_⟩, hl, hm, by simp, ?_, .inr ⟨_, rfl, by simp⟩⟩
    · have hlen : 0 < len := Nat.pos_of_mul_pos_right h0
      obtain ⟨b, off, sp⟩ := a
      have hsp : sp = none := by
        have h1 := (World.cells?_some (hC 0 (by omega)).1).2.2 0 hpos
        have h2 := (World.cells?_some (hC 0 (by omega)).1).2.1
        rw [List.getElem?_eq_getElem (by omega)] at h1
        cases sp with
        | none => rfl
        | some s =>
          exfalso
          simp only [Nat.zero_mul, Addr.add, if_true, World.cell?] at h1
          split at h1 <;> simp at h1
      subst hsp
      refine ⟨b, off, rfl, fun j u hu => ?_⟩
      have hj : j < len * sz := by have := (List.getElem?_eq_some_iff.1 hu).1; rw [flat_length hall] at this; simpa using this
      have hi : j / sz < len := Nat.div_lt_of_lt_mul (by rw [Nat.mul_comm]; exact hj)
      have hjm : j % sz < sz := Nat.mod_lt _ hpos
      have hat := flat_at hall (i := j / sz) (x := C (j / sz)) (by rw [List.getElem?_map, List.getElem?_range hi]; rfl)
      have hcell := (World.cells?_some (hC (j / sz) (by omega)).1).2.2 (j % sz) hjm
      rw [← hat, List.getElem?_take_of_lt hjm, List.getElem?_drop] at hcell
      have e1 : j / sz * sz + j % sz = j := by rw [Nat.mul_comm]; exact Nat.div_add_mod j sz
      rw [e1, hu, Addr.add_mid, Addr.add_mid, Nat.add_assoc, e1] at hcell
      exact hcell
    · intro i r hr
      have hi : i < len := by have := (List.getElem?_eq_some_iff.1 hr).1; simpa using this
      rw [List.getElem?_map, List.getElem?_range hi] at hr
      simp only [Option.map_some, Option.some.injEq] at hr
      subst hr
      exact ⟨D i, by rw [List.getElem?_map, List.getElem?_range hi]; rfl, n, _, (hC i (by omega)).2⟩
/-- Rows that each are some f p. -/
theorem all_map {α β : Type} (f : β → α) : ∀ (rows : List α), (∀ r ∈ rows, ∃ p, r = f p) → ∃ l : List β, rows = l.map f
  | [], _ => ⟨[], rfl⟩
  | r :: rows, h => by
    obtain ⟨p, hp⟩ := h r (by simp)
    obtain ⟨l, hl⟩ := all_map f rows (fun r hr => h r (by simp [hr]))
    exact ⟨p :: l, by rw [hp, hl]; rfl⟩
theorem u8_of {n : Int} (h : (Lit.int .u8 n).wf = true) : Value.int .u8 n = bv (UInt8.ofNat n.toNat) := by
  have hb := bounds_u8 h
  unfold bv
  congr 1
  rw [UInt8.toNat_ofNat']
  omega
end
end Go.Proofs.YthdlljlcffokbaaDoor
namespace Go.Proofs.YthdlljlcffokbaaDoor
open Go.ChangeShapes Go.WideShapes Go.ChangeAt Go.RowKit Go.Deep

theorem flat_one {α : Type} (f : α → Value) : ∀ l : List α, (l.map fun b => [f b]).flatten = l.map f
  | [] => rfl
  | b :: l => by rw [List.map_cons, List.flatten_cons, flat_one f l]; rfl
section
variable {H : Type} {enc : TypeId × Value → H} {w : World}
theorem read_int {r : List Value} {d : DataW H} (h : Reads enc Tryd.prog w 3 r d) : ∃ b : Int, r = [ik b] ∧ (Lit.int .i64 b).wf = true := by
  obtain ⟨n, p, h⟩ := h
  obtain ⟨c, hc, _, hw⟩ := DataW.trod_int Tryd.underlying3 h
  exact ⟨c, hc, hw⟩
theorem read_u8 {r : List Value} {d : DataW H} (h : Reads enc Tryd.prog w 5 r d) : ∃ b : UInt8, r = [bv b] := by
  obtain ⟨n, p, h⟩ := h
  obtain ⟨c, hc, _, hw⟩ := DataW.trod_int Tryd.underlying5 h
  exact ⟨UInt8.ofNat c.toNat, by rw [hc, u8_of hw]⟩
/-- A slice of numbers that came in. -/
theorem in_ints {A : Option Addr} {len cap : Nat} {d : DataW H} {p : List MemPlace} (h : DataW.Trod enc Tryd.prog w 0 (fun _ => true) true 55 (.slice A len cap) d p) :
    ∃ l : List Int, l.length = len ∧ Rd w A l.length (iv l) ∧ ∀ x ∈ l, (Lit.int .i64 x).wf = true := by
  obtain ⟨fuel, h⟩ := h
  obtain ⟨rows, D, hl, hD, _, hr, _, _, hn, hx, hd⟩ := rd_slice Tryd.underlying55 (show Tryd.prog.cellsOf 3 = 1 by kernel_rfl) (by omega) h
  obtain ⟨l, rfl⟩ := all_map (fun b : { x : Int // (Lit.int .i64 x).wf = true } => [ik b.1]) rows (fun r hr => by
    obtain ⟨i, hi⟩ := List.getElem?_of_mem hr
    obtain ⟨d, _, hd⟩ := hx i r hi
    obtain ⟨b, hb, hw⟩ := read_int hd
    exact ⟨⟨b, hw⟩, hb⟩)
  rw [List.length_map] at hl
  rw [flat_one (fun b : { x : Int // (Lit.int .i64 x).wf = true } => ik b.1), Nat.mul_one] at hr
  refine ⟨l.map (·.1), by rw [List.length_map, hl], ?_, fun x hx => ?_⟩
  · rw [List.length_map, hl]
    unfold iv
    rw [List.map_map]
    exact hr
  · obtain ⟨y, _, rfl⟩ := List.mem_map.1 hx
    exact y.2
/-- A slice of bytes that came in. -/
theorem in_bytes {A : Option Addr} {len cap : Nat} {d : DataW H} {p : List MemPlace} (h : DataW.Trod enc Tryd.prog w 0 (fun _ => true) true 39 (.slice A len cap) d p) :
    ∃ l : List UInt8, l.length = len ∧ Rd w A l.length (bvs l) := by
  obtain ⟨fuel, h⟩ := h
  obtain ⟨rows, D, hl, hD, _, hr, _, _, hn, hx, hd⟩ := rd_slice Tryd.underlying39 (show Tryd.prog.cellsOf 5 = 1 by kernel_rfl) (by omega) h
  obtain ⟨l, rfl⟩ := all_map (fun b => [bv b]) rows (fun r hr => by
    obtain ⟨i, hi⟩ := List.getElem?_of_mem hr
    obtain ⟨d, _, hd⟩ := hx i r hi
    exact read_u8 hd)
  rw [List.length_map] at hl
  rw [flat_one bv, Nat.mul_one] at hr
  subst hl
  exact ⟨l, rfl, hr⟩
end
end Go.Proofs.YthdlljlcffokbaaDoor
namespace Go.Proofs.YthdlljlcffokbaaDoor
open Go.RowKit

theorem witness_zip {H : Type} {enc : TypeId × Value → H} {C : Checked} {os : Os} {f : FuncId} {fn : Func} {s : OpenSpec} {conds : List PathCond} {apart : Bool} {laid : List (String × DataW Unit)} (modest : Bool) (w0 : World) (args : Array Value) (hos : w0.os = os)
    (hv : (w0.forCall (fun _ _ => 0) ⟨#[], args, []⟩).variablesZipB C.prog = true)
    (hr : ((w0.forCall (fun _ _ => 0) ⟨#[], args, []⟩).heap.toList.drop C.prog.globals.size).take ((begin C.prog (fun _ _ => 0) default).world.heap.size - C.prog.globals.size) =
      (begin C.prog (fun _ _ => 0) default).world.heap.toList.drop C.prog.globals.size)
    (hok : Input.okWideB C.prog (w0.forCall (fun _ _ => 0) ⟨#[], args, []⟩) f ⟨#[], args, []⟩ = true)
    (hrow : s.preRow enc C.prog fn conds apart laid (w0.forCall (fun _ _ => 0) ⟨#[], args, []⟩).memory args) :
    ∃ (w : World) (tape : Tape) (i : Input), w.os = os ∧ (w.forCall tape i).Shaped C.prog ∧ i.vars = [] ∧ Input.okWide C.prog (w.forCall tape i) .any w.heap.size f i ∧
      s.preRow enc C.prog fn conds apart laid (w.forCall tape i).memory i.args ∧ ({ modest := modest } : Assume).holds C.prog (lone (Frame.enter C.prog f i.args .normal) [] (w.forCall tape i)) :=
  ⟨w0, fun _ _ => 0, ⟨#[], args, []⟩, hos, World.shaped_of_ZipB hv hr, (Input.okWide_of_okWideB (base := 0) hok).1, (Input.okWide_of_okWideB hok).2, hrow, by
    simp only [Assume.holds]
    exact ⟨by simp, by simp, fun _ => Modest.zero, by simp, by simp⟩⟩
end Go.Proofs.YthdlljlcffokbaaDoor
