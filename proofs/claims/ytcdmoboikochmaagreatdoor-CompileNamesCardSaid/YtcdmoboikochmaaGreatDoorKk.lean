/- The machine that runs closed code stands for the model: operations, statements, calls. Over any program. No condition. -/
import Derived.Test.YtcdmoboikochmaaGreatDoorKj2
import Derived.LoopN
namespace Go.Proofs.YtcdmoboikochmaaGreatDoor
open Go.RowKit

/-- The slots stand for the model's. -/
structure ER (σ : Sg) (n : Nat) (e : Tb Value) (a : Act) : Prop where
  size : a.tmps.size = n
  defers : a.defers = []
  get : ∀ k v, e.get k = some v → ∃ u, a.tmps[k]? = some u ∧ VR σ v u
/-- A call of the machine stands for a call of the model. -/
def CallOk (P : Program) (G : Nat) (call : CallF) : Prop := ∀ f args h nx v h' nx', call f args h nx = .ok v h' nx' →
  ∀ σ w us, VRs σ args us → MR G σ h.get nx w → Calls P f ⟨us⟩ w fun x w' => ∃ σ' u, x = .returned u ∧ VR σ' v u ∧ Tr G σ h.get nx w σ' h'.get nx' w'
/-- What must hold behind a statement. -/
def Post (G : Nat) (n : Nat) (σ : Sg) (h : Hp) (nx : Nat) (w : World) (Q : Exit → Act → World → Prop) : Out → Prop
  | .bad => False
  | .nrm e' h' nx' => ∀ σ' w' a', Tr G σ h.get nx w σ' h'.get nx' w' → ER σ' n e' a' → Q .normal a' w'
  | .ext id e' h' nx' => ∀ σ' w' a', Tr G σ h.get nx w σ' h'.get nx' w' → ER σ' n e' a' → Q (.exit id) a' w'
  | .ret e' h' nx' => ∀ σ' w' a', Tr G σ h.get nx w σ' h'.get nx' w' → ER σ' n e' a' → Q .ret a' w'
section
variable {P : Program} {G n : Nat} {σ : Sg} {e e' : Tb Value} {h h' : Hp} {nx nx' : Nat} {w w' : World} {a : Act} {Q : Exit → Act → World → Prop} {call : CallF} {v u : Value}
theorem ER.mono {σ' : Sg} (er : ER σ n e a) (hs : σ.le σ') : ER σ' n e a := ⟨er.size, er.defers, fun k v hk => let ⟨u, hu, hr⟩ := er.get k v hk; ⟨u, hu, hr.mono hs⟩⟩
theorem ER.oe (er : ER σ n e a) (m : MR G σ h.get nx w) : OE σ G e a.eval := by
  intro x v hx
  cases x with
  | tmp t =>
    obtain ⟨u, hu, hr⟩ := er.get t v hx
    have : a.eval (.tmp t) = u := by simp [Act.eval, hu]
    rw [this]; exact hr
  | const c =>
    obtain ⟨hf, hx⟩ := bo_inv (show bo (flat c) (some c) none = some v from hx) (by simp)
    injection hx with hx; subst hx
    exact VR.of_flat hf
  | global g =>
    obtain ⟨hg, hx⟩ := bo_inv (show bo (Nat.blt g G) (some (Value.pointer (some ⟨g, 0, none⟩))) none = some v from hx) (by simp)
    injection hx with hx; subst hx
    obtain ⟨k, hk⟩ := m.glob g (blt_lt hg)
    exact .ptr (L := ⟨g, 0, k⟩) hk .nil
  | func f =>
    injection (show some (Value.func (.func f) ⟨[]⟩ ⟨[]⟩) = some v from hx) with hx; subst hx
    exact .func f .nil .nil .nil
theorem mPut_some (n : Nat) (e : Tb Value) (d : Nat) (v : Value) : mPut n e (some d) v = bo (Nat.blt d n) (some (e.put d v)) none := by
  show bo (Nat.blt d n) (valS v (fun v => putS e d v some)) none = _
  rw [valS_eq, putS_eq]
theorem ER.put (er : ER σ n e a) {d : Option Tmp} (hp : mPut n e d v = some e') (hv : VR σ v u) : ER σ n e' (a.put d u) := by
  cases d with
  | none => injection hp with hp; subst hp; exact er
  | some d =>
    rw [mPut_some] at hp
    obtain ⟨hd, hp⟩ := bo_inv hp (by simp)
    injection hp with hp; subst hp
    have hd := blt_lt hd
    refine ⟨by simp [Act.put, er.size], by simpa [Act.put] using er.defers, fun k x hk => ?_⟩
    rw [Tb.get_put] at hk
    simp only [Act.put]
    by_cases hkd : k = d
    · subst hkd
      rw [if_pos rfl] at hk; injection hk with hk; subst hk
      exact ⟨u, by rw [Array.getElem?_setIfInBounds_self_of_lt (by rw [er.size]; exact hd)], hv⟩
    · rw [if_neg hkd] at hk
      rw [Array.getElem?_setIfInBounds_ne (Ne.symm hkd)]
      exact er.get k x hk
theorem guard_ok {ops : Array Oper} {o : Oper} {g : Nat × Bool} {b : Bool} (er : ER σ n e a) (hg : o.guard = some g) (hb : mGuard ops e g = some b) : Region.wanted o (yielded ops a.tmps) = b := by
  unfold mGuard at hb
  split at hb
  · rename_i d hd
    split at hb
    · rename_i c hc
      injection hb with hb; subst hb
      obtain ⟨u, hu, hr⟩ := er.get d _ hc
      have := hr.scal_inv rfl
      subst this
      obtain ⟨j, want⟩ := g
      simp only at hd
      simp [Region.wanted, hg, yielded, hd, hu]
    · rename_i hc
      injection hb with hb; subst hb
      obtain ⟨u, hu, hr⟩ := er.get d _ hc
      obtain ⟨ys, rfl, hys⟩ := hr.tuple_inv
      obtain ⟨j, want⟩ := g
      simp only at hd
      simp [Region.wanted, hg, yielded, hd, hu]
    · cases hb
  · cases hb
theorem Good.wp {o : Oper} {K : Act → World → Prop} (hg : Good P G o e h nx v h' nx') (er : ER σ n e a) (m : MR G σ h.get nx w) (k : ∀ σ' u w', VR σ' v u → Tr G σ h.get nx w σ' h'.get nx' w' → K (a.put o.dst u) w') : o.wp P a w K Q :=
  (hg σ w a.eval (er.oe m) m).wp fun u w' ⟨σ', hv, ht⟩ => k σ' u w' hv ht
theorem callB_ok {f : FuncId} (hb : callB P f = true) (as : Array Value) (w : World) : (callFunc f as).run P w = .ok (.enter f as) w := by
  unfold callB at hb
  split at hb
  · rename_i fn hf
    simp only [Bool.and_eq_true, Bool.not_eq_true'] at hb
    have h1 : fn.name ≠ "runtime.NumGoroutine" := fun hh => by rw [hh] at hb; simp at hb
    have h2 : fn.body ≠ none := fun hh => by rw [hh] at hb; simp at hb
    unfold callFunc
    simp [hf, h1, h2]
  · cases hb
theorem call_wp {o : Oper} {c : Call} {f : Operand} {K : Act → World → Prop} (hc : CallOk P G call) (ho : o.op = .call c) (hcal : c.callee = .value f) (hm : mCall P call h nx (evO G e f) (evL G e c.args.toList) = .ok v h' nx') (er : ER σ n e a) (m : MR G σ h.get nx w)
    (k : ∀ σ' u w', VR σ' v u → Tr G σ h.get nx w σ' h'.get nx' w' → K (a.put o.dst u) w') : o.wp P a w K Q := by
  unfold mCall at hm
  split at hm
  · rename_i fi xs cs vs h1 h2
    obtain ⟨hb, hm⟩ := bo_inv hm (by simp)
    have oe := er.oe m
    obtain ⟨ys, ys', hu, hx, hx'⟩ := (oe f _ h1).func_inv
    have hargs := oe.list h2
    have hcall := hc fi _ h nx v h' nx' hm σ w _ (hx.append (hargs.append hx')) m
    unfold Oper.wp
    have hrun : (execOp a.eval o).run P w = .ok (.enter fi ⟨ys ++ (c.args.toList.map a.eval ++ ys')⟩) w := by
      have e1 : (⟨ys ++ (c.args.toList.map a.eval ++ ys')⟩ : Array Value) = ((⟨ys⟩ : Array Value) ++ c.args.map a.eval) ++ (⟨ys'⟩ : Array Value) := by
        apply Array.ext'; simp
      unfold execOp
      simp only [ho, resolve, hcal, hu, Deferred.ofValue, Sem.run_bind, Sem.run_pure, Result.andThen_ok, invoke, callB_ok hb, e1]
    rw [hrun, Oper.upon_enter]
    refine hcall.mono fun x w' hR => ?_
    obtain ⟨σ', u, rfl, hv, ht⟩ := hR
    exact k σ' u w' hv ht
  · cases hm
theorem builtin_good {o : Oper} {c : Call} {b : Builtin} (ho : o.op = .call c) (hcal : c.callee = .builtin b) (hm : mBuiltin P G e h nx o b c.args.toList c.argTypes.toList = .ok v h' nx') : Good P G o e h nx v h' nx' := by
  have hsel : ∀ cs b, o.op ≠ .select cs b := fun cs b hh => by rw [ho] at hh; cases hh
  obtain ⟨callee, args, argTypes⟩ := c
  simp only at hcal hm
  subst hcal
  unfold mBuiltin at hm
  split at hm
  · rename_i x t h1 h2
    obtain rfl := arr1 h1; obtain rfl := arr1 h2
    exact len_good ho hm
  · rename_i s x t u h1 h2
    obtain rfl := arr2 h1; obtain rfl := arr2 h2
    split at hm
    · rename_i el hu; exact app_good ho (.inl ⟨el, hu⟩) hm
    · rename_i hu; exact app_good ho (.inr hu) hm
    · cases hm
  · rename_i d x t u h1 h2
    obtain rfl := arr2 h1; obtain rfl := arr2 h2
    exact copy_good ho hm
  · exact flat_good hsel hm
  · exact flat_good hsel hm
  · cases hm
theorem mOp_wp {o : Oper} {K : Act → World → Prop} (hc : CallOk P G call) (hm : mOp P G call e h nx o = .ok v h' nx') (er : ER σ n e a) (m : MR G σ h.get nx w)
    (k : ∀ σ' u w', VR σ' v u → Tr G σ h.get nx w σ' h'.get nx' w' → K (a.put o.dst u) w') : o.wp P a w K Q := by
  unfold mOp at hm
  cases ho : o.op <;> rw [ho] at hm
  case move => exact (move_good (.inl ho) hm).wp er m k
  case assign => exact (move_good (.inr ho) hm).wp er m k
  case pick => exact (pick_good ho hm).wp er m k
  case alloc => exact (alloc_good ho hm).wp er m k
  case box => exact (box_good ho hm).wp er m k
  case build => exact (build_good ho hm).wp er m k
  case buildSlice => exact (buildSlice_good ho hm).wp er m k
  case insert => exact (update_good (.inr ho) hm).wp er m k
  case load => exact (load_good ho hm).wp er m k
  case store => exact (store_good ho hm).wp er m k
  case nilCheck => exact (nil_good ho hm).wp er m k
  case binOp => exact (bin_good ho hm).wp er m k
  case unOp => exact (flat_good (fun cs b hh => by rw [ho] at hh; cases hh) hm).wp er m k
  case convert => exact (conv_good ho hm).wp er m k
  case sliceToArrayPointer => exact (arr_good ho hm).wp er m k
  case makeInterface => exact (iface_good ho hm).wp er m k
  case makeFunc => exact (func_good ho hm).wp er m k
  case makeMap => exact (makeMap_good ho hm).wp er m k
  case makeSlice => exact (makeSlice_good ho hm).wp er m k
  case slice => exact (slice_good ho hm).wp er m k
  case fieldAddr => exact (fieldAddr_good ho hm).wp er m k
  case field => exact (field_good ho hm).wp er m k
  case indexAddr => exact (indexAddr_good ho hm).wp er m k
  case index => exact (index_good ho hm).wp er m k
  case lookup => exact (lookup_good ho hm).wp er m k
  case mapUpdate => exact (update_good (.inl ho) hm).wp er m k
  case range => exact (range_good ho hm).wp er m k
  case next => exact (next_good ho hm).wp er m k
  case mapEntry => exact (mapEntry_good ho hm).wp er m k
  case entryStore => exact (entryStore_good ho hm).wp er m k
  case entry => exact (entry_good ho hm).wp er m k
  case extract => exact (extract_good ho hm).wp er m k
  case call c =>
    have hm : (match c.callee with
      | .value f => mCall P call h nx (evO G e f) (evL G e c.args.toList)
      | .builtin b => mBuiltin P G e h nx o b c.args.toList c.argTypes.toList
      | _ => .bad) = .ok v h' nx' := hm
    split at hm
    · rename_i f hcal; exact call_wp hc ho hcal hm er m k
    · rename_i b hcal; exact (builtin_good ho hcal hm).wp er m k
    · cases hm
  all_goals cases hm
theorem mStep_ok {o : Oper} {K : Act → World → Prop} {kf : ContF} {r : Out} (hc : CallOk P G call) (hm : mStep P G n call o e h nx kf = r) (hr : r ≠ .bad) (er : ER σ n e a) (m : MR G σ h.get nx w)
    (k : ∀ σ' a' w' e' h' nx', kf e' h' nx' = r → Tr G σ h.get nx w σ' h'.get nx' w' → ER σ' n e' a' → K a' w') : o.wp P a w K Q := by
  unfold mStep at hm
  cases ho : mOp P G call e h nx o with
  | bad => rw [ho] at hm; exact absurd hm.symm hr
  | ok v h' nx' =>
    rw [ho] at hm
    obtain ⟨e', hp, hm⟩ := oo_inv (show oo (mPut n e o.dst v) .bad (fun e' => kf e' h' nx') = r from hm) (fun hh => hr hh.symm)
    exact mOp_wp hc ho er m fun σ' u w' hv ht => k σ' _ w' e' h' nx' hm ht ((er.mono ht.ext).put hp hv)
theorem mOps_ok {ops : Array Oper} (hc : CallOk P G call) : ∀ (l : List Oper) {e : Tb Value} {h : Hp} {nx : Nat} {σ : Sg} {a : Act} {w : World} {r : Out}, mOps P G n call ops l e h nx = r → ER σ n e a → MR G σ h.get nx w → Post G n σ h nx w Q r → wpList P ops Q l a w
  | [], e, h, nx, σ, a, w, r, hm, er, m, hp => by
    subst hm
    exact wpList_nil (hp σ w a (Tr.refl m) er)
  | o :: l, e, h, nx, σ, a, w, r, hm, er, m, hp => by
    have hr : r ≠ .bad := fun hh => by rw [hh] at hp; exact hp
    have hm : oo o.guard (mStep P G n call o e h nx (mOps P G n call ops l)) (fun g => oo (mGuard ops e g) .bad (fun b => bo b (mStep P G n call o e h nx (mOps P G n call ops l)) (mSkip n o e h nx (mOps P G n call ops l)))) = r := hm
    have run : Region.wanted o (yielded ops a.tmps) = true → mStep P G n call o e h nx (mOps P G n call ops l) = r → wpList P ops Q (o :: l) a w := fun hw hs => by
      unfold wpList
      rw [if_pos hw]
      refine .inl (mStep_ok hc hs hr er m fun σ' a' w' e' h' nx' h1 h2 h3 => ?_)
      refine mOps_ok hc l h1 h3 h2.mr ?_
      cases r with
      | bad => exact hp.elim
      | nrm e1 h1 n1 => exact fun σ1 w1 a1 t1 r1 => hp σ1 w1 a1 (h2.trans t1) r1
      | ext id e1 h1 n1 => exact fun σ1 w1 a1 t1 r1 => hp σ1 w1 a1 (h2.trans t1) r1
      | ret e1 h1 n1 => exact fun σ1 w1 a1 t1 r1 => hp σ1 w1 a1 (h2.trans t1) r1
    cases hg : o.guard with
    | none =>
      rw [hg, oo_none] at hm
      exact run (by simp [Region.wanted, hg]) hm
    | some g =>
      rw [hg, oo_some] at hm
      obtain ⟨b, hb, hm⟩ := oo_inv hm (fun hh => hr hh.symm)
      have hw := guard_ok (ops := ops) er hg hb
      cases b with
      | true => exact run hw hm
      | false =>
        rw [bo_false] at hm
        obtain ⟨e', hpt, hm⟩ := oo_inv (show oo (mPut n e o.dst undef) .bad (fun e' => mOps P G n call ops l e' h nx) = r from hm) (fun hh => hr hh.symm)
        unfold wpList
        rw [if_neg (by simp [hw])]
        exact mOps_ok hc l hm (er.put hpt VR.undef) m hp
theorem Post.shift {σ' : Sg} {r : Out} (hp : Post G n σ h nx w Q r) (ht : Tr G σ h.get nx w σ' h'.get nx' w') : Post G n σ' h' nx' w' Q r := by
  cases r with
  | bad => exact hp
  | nrm e1 h1 n1 => exact fun σ1 w1 a1 t1 r1 => hp σ1 w1 a1 (ht.trans t1) r1
  | ext id e1 h1 n1 => exact fun σ1 w1 a1 t1 r1 => hp σ1 w1 a1 (ht.trans t1) r1
  | ret e1 h1 n1 => exact fun σ1 w1 a1 t1 r1 => hp σ1 w1 a1 (ht.trans t1) r1
/-- This way of the machine stands for this statement. -/
def CodeOk (P : Program) (G n : Nat) (f : ContF) (c : Code) : Prop := ∀ e h nx σ a w Q, ER σ n e a → MR G σ h.get nx w → Post G n σ h nx w Q (f e h nx) → c.wp P Q a w
def RegOk (P : Program) (G n : Nat) (dr : RegF) : Prop := ∀ id ops, CodeOk P G n (dr ops) (.region id ops true)
theorem seq_ok {f g : ContF} {x y : Code} (hx : CodeOk P G n f x) (hy : CodeOk P G n g y) : CodeOk P G n (cSeq f g) (.seq x y) := fun e h nx σ a w Q er m hp => by
  refine wp_seq (hx e h nx σ a w _ er m ?_)
  have hp : Post G n σ h nx w Q (@Out.rec (fun _ => Out) .bad g .ext .ret (f e h nx)) := hp
  cases hf : f e h nx with
  | bad => rw [hf] at hp; exact hp
  | nrm e1 h1 n1 => rw [hf] at hp; exact fun σ1 w1 a1 t1 r1 => hy e1 h1 n1 σ1 a1 w1 Q r1 t1.mr (hp.shift t1)
  | ext id e1 h1 n1 => rw [hf] at hp; exact hp
  | ret e1 h1 n1 => rw [hf] at hp; exact hp
theorem cond_ok {f g : ContF} {x : Operand} {y z : Code} (hy : CodeOk P G n f y) (hz : CodeOk P G n g z) : CodeOk P G n (cCond G x f g) (.cond x y z) := fun e h nx σ a w Q er m hp => by
  unfold cCond at hp
  split at hp
  · rename_i t ht
    have hx := (er.oe m x _ ht).scal_inv rfl
    cases t with
    | true => exact wp_cond_true hx (hy e h nx σ a w Q er m hp)
    | false => exact wp_cond_false hx (hz e h nx σ a w Q er m hp)
  · exact hp.elim
theorem block_ok {f : ContF} {id : Nat} {c : Code} (hc : CodeOk P G n f c) : CodeOk P G n (cBlock id f) (.block id c) := fun e h nx σ a w Q er m hp => by
  refine wp_block (hc e h nx σ a w _ er m ?_)
  have hp : Post G n σ h nx w Q (@Out.rec (fun _ => Out) .bad .nrm (fun id' e' h' nx' => bo (Nat.beq id' id) (.nrm e' h' nx') (.ext id' e' h' nx')) .ret (f e h nx)) := hp
  cases hf : f e h nx with
  | bad => rw [hf] at hp; exact hp
  | nrm e1 h1 n1 => rw [hf] at hp; exact hp
  | ret e1 h1 n1 => rw [hf] at hp; exact hp
  | ext id' e1 h1 n1 =>
    rw [hf] at hp
    intro σ1 w1 a1 t1 r1
    simp only [Exit.inBlock]
    cases hb : Nat.beq id' id with
    | true =>
      have := Nat.eq_of_beq_eq_true hb; subst this
      have hp : Post G n σ h nx w Q (bo (Nat.beq id' id') (.nrm e1 h1 n1) (.ext id' e1 h1 n1)) := hp
      rw [hb] at hp
      rw [if_pos rfl]; exact hp σ1 w1 a1 t1 r1
    | false =>
      have hne : id' ≠ id := fun e => by subst e; simp at hb
      have hp : Post G n σ h nx w Q (bo (Nat.beq id' id) (.nrm e1 h1 n1) (.ext id' e1 h1 n1)) := hp
      rw [hb] at hp
      rw [if_neg hne]; exact hp σ1 w1 a1 t1 r1
theorem loop_ok {f : ContF} {c : Code} (hc : CodeOk P G n f c) (fuel : Nat) : CodeOk P G n (mLoop f fuel) (.loop c) := fun e h nx σ a w Q er m hp => by
  refine wp_loop_rounds fuel ?_
  induction fuel generalizing e h nx σ a w with
  | zero => exact hp.elim
  | succ k ih =>
    rw [rounds_succ]
    refine hc e h nx σ a w _ er m ?_
    have hp : Post G n σ h nx w Q (@Out.rec (fun _ => Out) .bad (mLoop f k) .ext .ret (f e h nx)) := hp
    cases hf : f e h nx with
    | bad => rw [hf] at hp; exact hp
    | nrm e1 h1 n1 => rw [hf] at hp; exact fun σ1 w1 a1 t1 r1 => ih e1 h1 n1 σ1 a1 w1 r1 t1.mr (hp.shift t1)
    | ext id e1 h1 n1 => rw [hf] at hp; exact hp
    | ret e1 h1 n1 => rw [hf] at hp; exact hp
theorem scope_ok {f : ContF} {c : Code} (hc : CodeOk P G n f c) : CodeOk P G n f (.scope c) := fun e h nx σ a w Q er m hp => by
  refine wp_scope_straight (hc e h nx σ a w _ er m ?_)
  cases hf : f e h nx with
  | bad => rw [hf] at hp; exact hp
  | nrm e1 h1 n1 => rw [hf] at hp; exact hp
  | ret e1 h1 n1 => rw [hf] at hp; exact hp
  | ext id e1 h1 n1 => rw [hf] at hp; exact hp
theorem code_ok {dr : RegF} (fuel : Nat) (hc : CallOk P G call) (hd : RegOk P G n dr) : ∀ c, CodeOk P G n (mCode P G n fuel call dr c) c := by
  intro c
  induction c with
  | skip => exact fun e h nx σ a w Q er m hp => wp_skip (hp σ w a (Tr.refl m) er)
  | region id ops draw =>
    cases draw with
    | true => exact hd id ops
    | false => exact fun e h nx σ a w Q er m hp => wp_region_list (mOps_ok hc _ rfl er m hp)
  | seq x y hx hy => exact seq_ok hx hy
  | cond x y z hy hz => exact cond_ok hy hz
  | block id c ih => exact block_ok ih
  | loop c ih => exact loop_ok ih fuel
  | exit id => exact fun e h nx σ a w Q er m hp => wp_exit (hp σ w a (Tr.refl m) er)
  | scope c ih => exact scope_ok ih
  | label l => exact fun e h nx σ a w Q er m hp => wp_label (hp σ w a (Tr.refl m) er)
  | ret => exact fun e h nx σ a w Q er m hp => wp_ret (hp σ w a (Tr.refl m) er)
  | _ => exact fun e h nx σ a w Q er m hp => hp.elim
theorem loadVar_ok {t : TypeId} {y : Value} (hm : mLoad P h 0 t (some y) = .ok v h' nx') (hy : VR σ y u) (m : MR G σ h.get nx w) : ∃ ad x, u = .pointer (some ad) ∧ VR σ v x ∧ (loadVar t ad).run P w = .ok x w := by
  unfold mLoad at hm
  split at hm
  · rename_i id off h1
    injection h1 with h1; subst h1
    obtain ⟨L, hL, hu⟩ := hy.ptr_inv
    split at hm
    · rename_i el n k c hb
      split at hm
      · rename_i hr
        split at hm
        · rename_i v' hv
          obtain ⟨rfl, rfl, rfl⟩ := ok_inj hm
          obtain ⟨x, hc, hvu⟩ := m.cell hb hL hv
          refine ⟨_, x, hu, hvu, ?_⟩
          simp only [loadVar, Sem.run_bind, (run_isAgg hr w).1, Result.andThen_ok, Option.isSome_none, Bool.false_eq_true, if_false]
          simp [hc]
        · cases hm
      · rename_i j hr
        split at hm
        · rename_i l hl
          obtain ⟨rfl, rfl, rfl⟩ := ok_inj hm
          obtain ⟨us, h2, h3, h4⟩ := m.ldN hb hL j off hl
          obtain ⟨i, hi, hs⟩ := (run_isAgg hr w).2 j rfl
          have hcells := rangeAt_loadCells (P := P) h4
          rw [h3] at hcells
          refine ⟨_, .agg ⟨us⟩, hu, .agg h2 .nil, ?_⟩
          simp [loadVar, (run_isAgg hr w).1, sizeOf, typeInfo, hi, hs, hcells]
        · cases hm
      · cases hm
    · cases hm
  · cases hm
/-- One result. -/
def resVal (tmps : Array Value) : ResultVar → Sem Value
  | .tmp t => pure (tmps.getD t Go.undef)
  | .cell ad t => do loadVar t (← asAddr (tmps.getD ad Go.undef))
theorem mRes_ok (er : ER σ n e a) (m : MR G σ h.get nx w) : ∀ {l : List ResultVar} {vs : List Value}, mRes P e h l = some vs → ∃ us, VRs σ vs us ∧ (l.mapM (resVal a.tmps)).run P w = .ok us w
  | [], vs, hm => by injection hm with hm; subst hm; exact ⟨[], .nil, rfl⟩
  | r :: l, vs, hm => by
    have hm : (match (match r with | .tmp t => e.get t | .cell ad t => (match mLoad P h 0 t (e.get ad) with | .ok v _ _ => some v | .bad => none)), mRes P e h l with
      | some v, some vs => some (v :: vs)
      | _, _ => none) = some vs := hm
    split at hm
    · rename_i v vs' h1 h2
      injection hm with hm; subst hm
      obtain ⟨us, h3, h4⟩ := mRes_ok er m h2
      have key : ∀ x, VR σ v x → (resVal a.tmps r).run P w = .ok x w → ∃ us, VRs σ (v :: vs') us ∧ ((r :: l).mapM (resVal a.tmps)).run P w = .ok us w := fun x hv hx =>
        ⟨x :: us, .cons hv h3, by simp only [List.mapM_cons, Sem.run_bind, Sem.run_pure, Result.andThen_ok, hx, h4]⟩
      cases r with
      | tmp t =>
        obtain ⟨x, hx, hv⟩ := er.get t v h1
        exact key x hv (by
          have hg : a.tmps.getD t Go.undef = x := by simp [hx]
          simp only [resVal, hg]; rfl)
      | cell ad t =>
        simp only at h1
        cases hq : e.get ad with
        | none => rw [hq] at h1; simp [mLoad] at h1
        | some y =>
          rw [hq] at h1
          split at h1
          · rename_i v2 h5 n5 hl
            injection h1 with h1; subst h1
            obtain ⟨x0, hx0, hv0⟩ := er.get ad y hq
            obtain ⟨adr, x, hp, hv, hrun⟩ := loadVar_ok (P := P) hl hv0 m
            subst hp
            exact key x hv (by
              have hg : a.tmps.getD ad Go.undef = .pointer (some adr) := by simp [hx0]
              simp only [resVal, Sem.run_bind, hg, asAddr, Sem.run_pure, Result.andThen_ok, hrun])
          · cases h1
    · cases hm
theorem mRet_ok {vs us : List Value} (hv : VRs σ vs us) : VR σ (mRet vs) (mRet us) := by
  match vs, us, hv with
  | [], [], hv => exact .tuple .nil .nil
  | [x], [y], hv => exact hv
  | x :: x' :: vs, y :: y' :: us, hv => exact .tuple hv .nil
  | [], _ :: _, hv => cases hv
  | _ :: _, [], hv => have := hv.len; simp at this
  | [_], _ :: _ :: _, hv => have := hv.len; simp at this
  | _ :: _ :: _, [_], hv => have := hv.len; simp at this
theorem results_run {fn : Func} {us : List Value} (hr : (fn.results.toList.mapM (resVal a.tmps)).run P w = .ok us w) : (results fn a.tmps).run P w = .ok (mRet us) w := by
  have he : results fn a.tmps = (do let vs ← fn.results.mapM (resVal a.tmps); pure (if h : vs.size = 1 then vs[0] else .tuple vs)) := by
    unfold results
    congr 1
  rw [he, Array.mapM_eq_mapM_toList]
  simp only [Sem.run_bind, Sem.run_map, hr, Result.andThen_ok]
  match us with
  | [] => rfl
  | [x] => rfl
  | x :: y :: us => rfl
end
/-- A call by its body. -/
theorem body_ok {P : Program} {G fuel : Nat} {dr : CallF → Nat → RegF} {call : CallF} (hc : CallOk P G call) (hd : ∀ n, RegOk P G n (dr call n)) : CallOk P G (mBody P G fuel dr call) := by
  intro f args h nx v h' nx' hm σ w us hv m
  obtain ⟨fn, hf, hm⟩ := oo_inv (show oo (P.funcs[f]?) .bad (fun fn => oo fn.body .bad (fun c => bo (Nat.ble args.length fn.ntmps) (mEnd P fn (mCode P G fn.ntmps fuel call (dr call fn.ntmps) c (Tb.of args) h nx)) .bad)) = .ok v h' nx' from hm) (by simp)
  obtain ⟨c, hb, hm⟩ := oo_inv hm (by simp)
  obtain ⟨hle, hm⟩ := bo_inv hm (by simp)
  have hle := Nat.le_of_ble_eq_true hle
  have hlen := hv.len
  refine calls_of_wp hf hb ?_
  have er : ER σ fn.ntmps (Tb.of args) { tmps := (⟨us⟩ : Array Value) ++ Array.replicate (fn.ntmps - us.length) Go.undef, defers := [] } := by
    refine ⟨by simp; omega, rfl, fun k v hk => ?_⟩
    rw [Tb.get_of] at hk
    obtain ⟨u, hu, hr⟩ := hv.get hk
    have hlt := (List.getElem?_eq_some_iff.1 hu).1
    exact ⟨u, by rw [Array.getElem?_append_left (by simpa using hlt)]; simpa using hu, hr⟩
  refine code_ok fuel hc (hd fn.ntmps) c (Tb.of args) h nx σ _ w _ er m ?_
  cases hr : mCode P G fn.ntmps fuel call (dr call fn.ntmps) c (Tb.of args) h nx with
  | bad => rw [hr] at hm; cases hm
  | ext id e1 h1 n1 => rw [hr] at hm; cases hm
  | nrm e1 h1 n1 =>
    rw [hr] at hm
    obtain ⟨hem, hm⟩ := bo_inv (show bo fn.results.toList.isEmpty (OR.ok (mRet []) h1 n1) OR.bad = OR.ok v h' nx' from hm) (by simp)
    obtain ⟨rfl, rfl, rfl⟩ := ok_inj hm
    intro σ' w' a' ht er'
    have hl : fn.results.toList = [] := by simpa using hem
    exact ⟨er'.defers, mRet [], results_run (by rw [hl]; rfl), σ', mRet [], rfl, mRet_ok .nil, ht⟩
  | ret e1 h1 n1 =>
    rw [hr] at hm
    obtain ⟨vs, hvs, hm⟩ := oo_inv (show oo (mRes P e1 h1 fn.results.toList) OR.bad (fun vs => OR.ok (mRet vs) h1 n1) = OR.ok v h' nx' from hm) (by simp)
    obtain ⟨rfl, rfl, rfl⟩ := ok_inj hm
    intro σ' w' a' ht er'
    obtain ⟨us', h2, h3⟩ := mRes_ok er' ht.mr hvs
    exact ⟨er'.defers, mRet us', results_run h3, σ', mRet us', rfl, mRet_ok h2, ht⟩
theorem calls_ok {P : Program} {G fuel : Nat} {dr : CallF → Nat → RegF} {base : CallF} (hb : CallOk P G base) (hd : ∀ call n, CallOk P G call → RegOk P G n (dr call n)) : ∀ d, CallOk P G (mCalls P G fuel dr base d)
  | 0 => hb
  | d + 1 => fun f args h nx v h' nx' hm => by
    have hm : @OR.rec (fun _ => OR) (mBody P G fuel dr (mCalls P G fuel dr base d) f args h nx) .ok (base f args h nx) = .ok v h' nx' := hm
    cases hq : base f args h nx with
    | bad => rw [hq] at hm; exact body_ok (calls_ok hb hd d) (fun n => hd _ n (calls_ok hb hd d)) f args h nx v h' nx' hm
    | ok v2 h2 n2 => rw [hq] at hm; exact hb f args h nx v h' nx' (hq.trans hm)
end Go.Proofs.YtcdmoboikochmaaGreatDoor
