/- The machine that runs closed code stands for the model: operations, statements, calls. Over any program. No condition. -/
import Derived.Test.YtklciidffdnglaaDoorKj2
import Derived.LoopNIn
import Derived.TacticsIn
import Derived.OrdersIn
import Derived.RangeFuncCalls
import Derived.RangeFuncLeaves
import Derived.RangeFuncRecord
namespace Go.Proofs.YtklciidffdnglaaDoor
open Go.RowKit

/-- The slots stand for the model's. -/
structure ER (σ : Sg) (n : Nat) (e : Tb Value) (a : Act) : Prop where
  size : a.tmps.size = n
  get : ∀ k v, e.get k = some v → ∃ u, a.tmps[k]? = some u ∧ VR σ v u
/-- A call of the machine stands for a call of the model. -/
def CallOk (P : Program) (G : Nat) (call : CallF) : Prop := ∀ f args h nx v h' nx', call f args h nx = .ok v h' nx' →
  ∀ σ w us, VRs σ args us → MR G σ h.get nx w → Calls P f ⟨us⟩ w fun x w' => ∃ σ' u, x = .returned u ∧ VR σ' v u ∧ Tr G σ h.get nx w σ' h'.get nx' w'
/-- The fence of a frame: of a function, or of a round. -/
def rF : Option Nat → Fence
  | none => Fence.wide
  | some l => Fence.wide.inRound l
theorem rF_fn (rd : Option Nat) (f : FuncId) : (rF rd).fn f := by cases rd <;> trivial
theorem rF_depth (rd : Option Nat) : (rF rd).depth = none := by cases rd <;> rfl
theorem rF_round (rd : Option Nat) : (rF rd).round = rd := by cases rd <;> rfl
theorem rF_room (rd : Option Nat) (k : Nat) : (rF rd).room k := fun d hd => by rw [rF_depth] at hd; cases hd
/-- A round of the machine stands for a round of the model. -/
def RndOk (P : Program) (G : Nat) (call : CallF) : Prop := ∀ l args h nx v h' nx', call (P.funcs.size + l) args h nx = .ok v h' nx' →
  ∀ σ w us, VRs σ args us → MR G σ h.get nx w → ∃ (L : Loc) (r : Loop), σ l = some L ∧ w.heap[L.blk]? = some (.loop r) ∧ us.length = r.params.size ∧
    RoundIn Fence.wide 2 P L.blk r.fn ((r.params.zip (⟨us⟩ : Array Value)).foldl (fun tmps (t, a) => tmps.setIfInBounds t a) r.tmps) r.assign r.body w (fun x w' => ∃ σ' u, x = .returned u ∧ VR σ' v u ∧ Tr G σ h.get nx w σ' h'.get nx' w')
/-- Calls of the machine, functions and rounds. -/
structure CallsOk (P : Program) (G : Nat) (call : CallF) : Prop where
  fn : ∀ f args h nx v h' nx', f < P.funcs.size → call f args h nx = .ok v h' nx' → ∀ σ w us, VRs σ args us → MR G σ h.get nx w → Calls P f ⟨us⟩ w fun x w' => ∃ σ' u, x = .returned u ∧ VR σ' v u ∧ Tr G σ h.get nx w σ' h'.get nx' w'
  rnd : RndOk P G call
/-- The marks of the ranges over functions that a frame has begun: blocks that no number bears. -/
def Mk (b0 : Nat) (σ : Sg) (h : Hf) (w : World) (ds : List Deferred) : Prop :=
  ∃ bs : List Nat, ds = bs.map (fun b => { target := .collected b, args := #[] }) ∧ bs.Nodup ∧ ∀ b ∈ bs, b0 ≤ b ∧ b < w.heap.size ∧ w.heap[b]? = some (.deferred (some [])) ∧ ∀ id L, (h id).isSome = true → σ id = some L → L.blk ≠ b
theorem Mk.nil {b0 : Nat} {σ : Sg} {h : Hf} {w : World} : Mk b0 σ h w [] := ⟨[], rfl, List.nodup_nil, fun _ hb => by cases hb⟩
theorem Mk.tr {G b0 nx nx' : Nat} {σ σ' : Sg} {h h' : Hf} {w w' : World} {ds : List Deferred} (mk : Mk b0 σ h w ds) (t : Tr G σ h nx w σ' h' nx' w') : Mk b0 σ' h' w' ds := by
  obtain ⟨bs, h1, h2, h3⟩ := mk
  refine ⟨bs, h1, h2, fun b hb => ?_⟩
  obtain ⟨h4, h5, h6, h7⟩ := h3 b hb
  refine ⟨h4, Nat.lt_of_lt_of_le h5 t.size, (t.fr b h5 h7).trans h6, fun id L hi hs he => ?_⟩
  rcases t.src id L hi hs with h8 | ⟨id0, L0, h8, h9, h10⟩
  · omega
  · exact h7 id0 L0 h8 h9 (h10.trans he)
/-- What must hold behind a statement. -/
def Post (G : Nat) (n b0 : Nat) (σ : Sg) (h : Hp) (nx : Nat) (w : World) (Q : Exit → Act → World → Prop) : Out → Prop
  | .bad => False
  | .nrm e' h' nx' => ∀ σ' w' a', Tr G σ h.get nx w σ' h'.get nx' w' → ER σ' n e' a' → Mk b0 σ' h'.get w' a'.defers → Q .normal a' w'
  | .ext id e' h' nx' => ∀ σ' w' a', Tr G σ h.get nx w σ' h'.get nx' w' → ER σ' n e' a' → Mk b0 σ' h'.get w' a'.defers → Q (.exit id) a' w'
  | .ret e' h' nx' => ∀ σ' w' a', Tr G σ h.get nx w σ' h'.get nx' w' → ER σ' n e' a' → Mk b0 σ' h'.get w' a'.defers → Q .ret a' w'
section
variable {P : Program} {G n b0 : Nat} {rd : Option Nat} {σ : Sg} {e e' : Tb Value} {h h' : Hp} {nx nx' : Nat} {w w' : World} {a : Act} {Q : Exit → Act → World → Prop} {call : CallF} {v u : Value}
theorem ER.mono {σ' : Sg} (er : ER σ n e a) (hs : σ.le σ') : ER σ' n e a := ⟨er.size, fun k v hk => let ⟨u, hu, hr⟩ := er.get k v hk; ⟨u, hu, hr.mono hs⟩⟩
theorem ER.oe (er : ER σ n e a) (m : MR G σ h.get nx w) : OE σ G e a.eval := by
  intro x v hx
  cases x with
  | tmp t =>
    obtain ⟨u, hu, hr⟩ := er.get t v hx
    have : a.eval (.tmp t) = u := by simp [Act.eval, hu]
    rw [this]; exact hr
  | const c =>
    obtain ⟨hf, hx⟩ := bo_inv (show bo (flat c) (some c) none = some v from hx) (by simp)
    injection hx with hx; subst hx
    exact VR.of_flat hf
  | global g =>
    obtain ⟨hg, hx⟩ := bo_inv (show bo (Nat.blt g G) (some (Value.pointer (some ⟨g, 0, none⟩))) none = some v from hx) (by simp)
    injection hx with hx; subst hx
    obtain ⟨k, hk⟩ := m.glob g (blt_lt hg)
    exact .ptr (L := ⟨g, 0, k⟩) hk .nil
  | func f =>
    injection (show some (Value.func (.func f) ⟨[]⟩ ⟨[]⟩) = some v from hx) with hx; subst hx
    exact .func f .nil .nil .nil
theorem mPut_some (n : Nat) (e : Tb Value) (d : Nat) (v : Value) : mPut n e (some d) v = bo (Nat.blt d n) (some (e.put d v)) none := by
  show bo (Nat.blt d n) (valR v (fun v => putS e d v some)) none = _
  rw [valR_eq, putS_eq]
theorem ER.put (er : ER σ n e a) {d : Option Tmp} (hp : mPut n e d v = some e') (hv : VR σ v u) : ER σ n e' (a.put d u) := by
  cases d with
  | none => injection hp with hp; subst hp; exact er
  | some d =>
    rw [mPut_some] at hp
    obtain ⟨hd, hp⟩ := bo_inv hp (by simp)
    injection hp with hp; subst hp
    have hd := blt_lt hd
    refine ⟨by simp [Act.put, er.size], fun k x hk => ?_⟩
    rw [Tb.get_put] at hk
    simp only [Act.put]
    by_cases hkd : k = d
    · subst hkd
      rw [if_pos rfl] at hk; injection hk with hk; subst hk
      exact ⟨u, by rw [Array.getElem?_setIfInBounds_self_of_lt (by rw [er.size]; exact hd)], hv⟩
    · rw [if_neg hkd] at hk
      rw [Array.getElem?_setIfInBounds_ne (Ne.symm hkd)]
      exact er.get k x hk
theorem guard_ok {ops : Array Oper} {o : Oper} {g : Nat × Bool} {b : Bool} (er : ER σ n e a) (hg : o.guard = some g) (hb : mGuard ops e g = some b) : Region.wanted o (yielded ops a.tmps) = b := by
  unfold mGuard at hb
  split at hb
  · rename_i d hd
    split at hb
    · rename_i c hc
      injection hb with hb; subst hb
      obtain ⟨u, hu, hr⟩ := er.get d _ hc
      have := hr.scal_inv rfl
      subst this
      obtain ⟨j, want⟩ := g
      simp only at hd
      simp [Region.wanted, hg, yielded, hd, hu]
    · rename_i hc
      injection hb with hb; subst hb
      obtain ⟨u, hu, hr⟩ := er.get d _ hc
      obtain ⟨ys, rfl, hys⟩ := hr.tuple_inv
      obtain ⟨j, want⟩ := g
      simp only at hd
      simp [Region.wanted, hg, yielded, hd, hu]
    · cases hb
  · cases hb
theorem put_defers (a : Act) (d : Option Tmp) (v : Value) : (a.put d v).defers = a.defers := by cases d <;> rfl
theorem Good.wpIn {o : Oper} {K : Act → World → Prop} (hnd : ∀ c, o.op ≠ .defer c) (hg : Good P G o e h nx v h' nx') (er : ER σ n e a) (m : MR G σ h.get nx w) (k : ∀ σ' u w', VR σ' v u → Tr G σ h.get nx w σ' h'.get nx' w' → K (a.put o.dst u) w') : o.wpIn (rF rd) 2 P a w K Q := by
  refine ⟨fun f _ => rF_fn rd f, ?_⟩
  rw [Oper.semAt_eq _ _ _ hnd]
  obtain ⟨u, w', hr | ⟨hr, rfl⟩, σ', hv, ht⟩ := hg σ w a.eval (er.oe m) m
  · rw [hr]; exact k σ' u w' hv ht
  · rw [hr]; exact k σ' _ w' hv ht
theorem callB_ok {f : FuncId} (hb : callB P f = true) (as : Array Value) (w : World) : (callFunc f as).run P w = .ok (.enter f as) w := by
  unfold callB at hb
  split at hb
  · rename_i fn hf
    simp only [Bool.and_eq_true, Bool.not_eq_true'] at hb
    have h1 : fn.name ≠ "runtime.NumGoroutine" := fun hh => by rw [hh] at hb; simp at hb
    have h2 : fn.body ≠ none := fun hh => by rw [hh] at hb; simp at hb
    unfold callFunc
    simp [hf, h1, h2]
  · cases hb
theorem callB_lt {f : FuncId} (hb : callB P f = true) : f < P.funcs.size := by
  unfold callB at hb
  split at hb
  · rename_i fn hf; exact (Array.getElem?_eq_some_iff.1 hf).1
  · cases hb
theorem calls_rF {f : FuncId} {args : Array Value} {R : Ending → World → Prop} (h : Calls P f args w R) (k : Nat) : CallsIn (rF rd) k P f args w R := by
  cases rd with
  | none => exact callsIn_wide.2 h
  | some l => exact CallsIn.inRound l (callsIn_wide.2 h)
theorem round_rF {l : Nat} {f : FuncId} {tmps : Array Value} {asg body : Code} {R : Ending → World → Prop} (h : RoundIn Fence.wide 2 P l f tmps asg body w R) (k : Nat) : RoundIn (rF rd) k P l f tmps asg body w R := by
  refine ⟨rF_fn rd f, fun c cs _ => ?_⟩
  have := h.2 c cs (room_wide _)
  cases rd <;> exact this
theorem call_wp {o : Oper} {c : Call} {f : Operand} {K : Act → World → Prop} (hc : CallsOk P G call) (ho : o.op = .call c) (hcal : c.callee = .value f) (hm : mCall P call h nx (evO G e f) (evL G e c.args.toList) = .ok v h' nx') (er : ER σ n e a) (m : MR G σ h.get nx w)
    (k : ∀ σ' u w', VR σ' v u → Tr G σ h.get nx w σ' h'.get nx' w' → K (a.put o.dst u) w') : o.wpIn (rF rd) 2 P a w K Q := by
  refine ⟨fun f _ => rF_fn rd f, ?_⟩
  rw [Oper.semAt_eq _ _ _ (fun c hh => by rw [ho] at hh; cases hh)]
  unfold mCall at hm
  split at hm
  · rename_i fi xs cs vs h1 h2
    obtain ⟨hb, hm⟩ := bo_inv hm (by simp)
    have oe := er.oe m
    obtain ⟨ys, ys', hu, hx, hx'⟩ := (oe f _ h1).func_inv
    have hargs := oe.list h2
    have hcall := hc.fn fi _ h nx v h' nx' (callB_lt hb) hm σ w _ (hx.append (hargs.append hx')) m
    have hrun : (execOp a.eval o).run P w = .ok (.enter fi ⟨ys ++ (c.args.toList.map a.eval ++ ys')⟩) w := by
      have e1 : (⟨ys ++ (c.args.toList.map a.eval ++ ys')⟩ : Array Value) = ((⟨ys⟩ : Array Value) ++ c.args.map a.eval) ++ (⟨ys'⟩ : Array Value) := by
        apply Array.ext'; simp
      unfold execOp
      simp only [ho, resolve, hcal, hu, Deferred.ofValue, Sem.run_bind, Sem.run_pure, Result.andThen_ok, invoke, callB_ok hb, e1]
    rw [hrun]
    refine ⟨fun hd => by rw [rF_depth] at hd; (cases hd), (calls_rF hcall 1).mono fun x w' hR => ?_⟩
    obtain ⟨σ', u, rfl, hv, ht⟩ := hR
    exact k σ' u w' hv ht
  · rename_i l vs h1 h2
    rw [natS_eq] at hm
    have oe := er.oe m
    obtain ⟨L0, hL0, hu⟩ := (oe f _ h1).yld_inv
    obtain ⟨L, r, hL, hh, hlen, hround⟩ := hc.rnd l _ h nx v h' nx' hm σ w _ (oe.list h2) m
    rw [hL0] at hL; injection hL with hL; subst hL
    have hrun : (execOp a.eval o).run P w = (Instr.yield L0.blk ((⟨[]⟩ : Array Value) ++ c.args.map a.eval)).run P w := by
      unfold execOp
      simp only [ho, resolve, hcal, hu, Deferred.ofValue, Sem.run_bind, Sem.run_pure, Result.andThen_ok, invoke]
    have e1 : ((⟨[]⟩ : Array Value) ++ c.args.map a.eval) = ⟨c.args.toList.map a.eval⟩ := by
      apply Array.ext'; simp
    rw [hrun, e1, run_yield (P := P) hh (by simpa using hlen)]
    refine ⟨fun hd => by rw [rF_depth] at hd; (cases hd), (round_rF hround 1).mono fun x w' hR => ?_⟩
    obtain ⟨σ', u, rfl, hv, ht⟩ := hR
    exact k σ' u w' hv ht
  · cases hm
theorem builtin_good {o : Oper} {c : Call} {b : Builtin} (ho : o.op = .call c) (hcal : c.callee = .builtin b) (hm : mBuiltin P G e h nx o b c.args.toList c.argTypes.toList = .ok v h' nx') : Good P G o e h nx v h' nx' := by
  have hsel : ∀ cs b, o.op ≠ .select cs b := fun cs b hh => by rw [ho] at hh; cases hh
  obtain ⟨callee, args, argTypes⟩ := c
  simp only at hcal hm
  subst hcal
  unfold mBuiltin at hm
  split at hm
  · rename_i x t h1 h2
    obtain rfl := arr1 h1; obtain rfl := arr1 h2
    exact len_good ho hm
  · rename_i s x t u h1 h2
    obtain rfl := arr2 h1; obtain rfl := arr2 h2
    split at hm
    · rename_i el hu; exact app_good ho (.inl ⟨el, hu⟩) hm
    · rename_i hu; exact app_good ho (.inr hu) hm
    · cases hm
  · rename_i d x t u h1 h2
    obtain rfl := arr2 h1; obtain rfl := arr2 h2
    exact copy_good ho hm
  · rename_i x t h1 h2
    obtain rfl := arr1 h1; obtain rfl := arr1 h2
    exact clear_good ho hm
  · exact flat_good hsel hm
  · exact flat_good hsel hm
  · cases hm
theorem mOp_wp {o : Oper} {K : Act → World → Prop} (hc : CallsOk P G call) (hm : mOp P G call e h nx o = .ok v h' nx') (er : ER σ n e a) (m : MR G σ h.get nx w)
    (k : ∀ σ' u w', VR σ' v u → Tr G σ h.get nx w σ' h'.get nx' w' → K (a.put o.dst u) w') : o.wpIn (rF rd) 2 P a w K Q := by
  rw [mOp_eq] at hm
  unfold sOp at hm
  cases ho : o.op <;> rw [ho] at hm
  case move => exact (move_good (.inl ho) hm).wpIn (fun c hh => by rw [ho] at hh; cases hh) er m k
  case assign => exact (move_good (.inr ho) hm).wpIn (fun c hh => by rw [ho] at hh; cases hh) er m k
  case pick => exact (pick_good ho hm).wpIn (fun c hh => by rw [ho] at hh; cases hh) er m k
  case alloc => exact (alloc_good ho hm).wpIn (fun c hh => by rw [ho] at hh; cases hh) er m k
  case box => exact (box_good ho hm).wpIn (fun c hh => by rw [ho] at hh; cases hh) er m k
  case build => exact (build_good ho hm).wpIn (fun c hh => by rw [ho] at hh; cases hh) er m k
  case buildSlice => exact (buildSlice_good ho hm).wpIn (fun c hh => by rw [ho] at hh; cases hh) er m k
  case insert => exact (update_good (.inr ho) hm).wpIn (fun c hh => by rw [ho] at hh; cases hh) er m k
  case load => exact (load_good ho hm).wpIn (fun c hh => by rw [ho] at hh; cases hh) er m k
  case store => exact (store_good ho hm).wpIn (fun c hh => by rw [ho] at hh; cases hh) er m k
  case nilCheck => exact (nil_good ho hm).wpIn (fun c hh => by rw [ho] at hh; cases hh) er m k
  case binOp => exact (bin_good ho hm).wpIn (fun c hh => by rw [ho] at hh; cases hh) er m k
  case unOp => exact (flat_good (fun cs b hh => by rw [ho] at hh; cases hh) hm).wpIn (fun c hh => by rw [ho] at hh; cases hh) er m k
  case convert => exact (conv_good ho hm).wpIn (fun c hh => by rw [ho] at hh; cases hh) er m k
  case sliceToArrayPointer => exact (arr_good ho hm).wpIn (fun c hh => by rw [ho] at hh; cases hh) er m k
  case makeInterface => exact (iface_good ho hm).wpIn (fun c hh => by rw [ho] at hh; cases hh) er m k
  case makeFunc => exact (func_good ho hm).wpIn (fun c hh => by rw [ho] at hh; cases hh) er m k
  case makeMap => exact (makeMap_good ho hm).wpIn (fun c hh => by rw [ho] at hh; cases hh) er m k
  case makeSlice => exact (makeSlice_good ho hm).wpIn (fun c hh => by rw [ho] at hh; cases hh) er m k
  case slice => exact (slice_good ho hm).wpIn (fun c hh => by rw [ho] at hh; cases hh) er m k
  case fieldAddr => exact (fieldAddr_good ho hm).wpIn (fun c hh => by rw [ho] at hh; cases hh) er m k
  case field => exact (field_good ho hm).wpIn (fun c hh => by rw [ho] at hh; cases hh) er m k
  case indexAddr => exact (indexAddr_good ho hm).wpIn (fun c hh => by rw [ho] at hh; cases hh) er m k
  case index => exact (index_good ho hm).wpIn (fun c hh => by rw [ho] at hh; cases hh) er m k
  case lookup => exact (lookup_good ho hm).wpIn (fun c hh => by rw [ho] at hh; cases hh) er m k
  case mapUpdate => exact (update_good (.inl ho) hm).wpIn (fun c hh => by rw [ho] at hh; cases hh) er m k
  case range => exact (range_good ho hm).wpIn (fun c hh => by rw [ho] at hh; cases hh) er m k
  case next => exact (next_good ho hm).wpIn (fun c hh => by rw [ho] at hh; cases hh) er m k
  case mapEntry => exact (mapEntry_good ho hm).wpIn (fun c hh => by rw [ho] at hh; cases hh) er m k
  case entryStore => exact (entryStore_good ho hm).wpIn (fun c hh => by rw [ho] at hh; cases hh) er m k
  case entry => exact (entry_good ho hm).wpIn (fun c hh => by rw [ho] at hh; cases hh) er m k
  case extract => exact (extract_good ho hm).wpIn (fun c hh => by rw [ho] at hh; cases hh) er m k
  case call c =>
    have hm : (match c.callee with
      | .value f => mCall P call h nx (evO G e f) (evL G e c.args.toList)
      | .builtin b => mBuiltin P G e h nx o b c.args.toList c.argTypes.toList
      | _ => .bad) = .ok v h' nx' := hm
    split at hm
    · rename_i f hcal; exact call_wp hc ho hcal hm er m k
    · rename_i b hcal; exact (builtin_good ho hcal hm).wpIn (fun c hh => by rw [ho] at hh; cases hh) er m k
    · cases hm
  all_goals cases hm
theorem mStep_ok {o : Oper} {K : Act → World → Prop} {kf : ContF} {r : Out} (hc : CallsOk P G call) (hm : mStep P G n call o e h nx kf = r) (hr : r ≠ .bad) (er : ER σ n e a) (m : MR G σ h.get nx w)
    (k : ∀ σ' a' w' e' h' nx', kf e' h' nx' = r → Tr G σ h.get nx w σ' h'.get nx' w' → ER σ' n e' a' → a'.defers = a.defers → K a' w') : o.wpIn (rF rd) 2 P a w K Q := by
  unfold mStep at hm
  cases ho : mOp P G call e h nx o with
  | bad => rw [ho] at hm; exact absurd hm.symm hr
  | ok v h' nx' =>
    rw [ho] at hm
    obtain ⟨e', hp, hm⟩ := oo_inv (show oo (mPut n e o.dst v) .bad (fun e' => kf e' h' nx') = r from hm) (fun hh => hr hh.symm)
    exact mOp_wp hc ho er m fun σ' u w' hv ht => k σ' _ w' e' h' nx' hm ht ((er.mono ht.ext).put hp hv) (put_defers _ _ _)
theorem Post.shift {σ' : Sg} {r : Out} (hp : Post G n b0 σ h nx w Q r) (ht : Tr G σ h.get nx w σ' h'.get nx' w') : Post G n b0 σ' h' nx' w' Q r := by
  cases r with
  | bad => exact hp
  | nrm e1 h1 n1 => exact fun σ1 w1 a1 t1 r1 => hp σ1 w1 a1 (ht.trans t1) r1
  | ext id e1 h1 n1 => exact fun σ1 w1 a1 t1 r1 => hp σ1 w1 a1 (ht.trans t1) r1
  | ret e1 h1 n1 => exact fun σ1 w1 a1 t1 r1 => hp σ1 w1 a1 (ht.trans t1) r1
theorem mOps_ok {ops : Array Oper} (hc : CallsOk P G call) : ∀ (l : List Oper) {e : Tb Value} {h : Hp} {nx : Nat} {σ : Sg} {a : Act} {w : World} {r : Out}, mOps P G n call ops l e h nx = r → ER σ n e a → MR G σ h.get nx w → Mk b0 σ h.get w a.defers → Post G n b0 σ h nx w Q r → wpListIn (rF rd) 2 P ops Q l a w
  | [], e, h, nx, σ, a, w, r, hm, er, m, mk, hp => by
    subst hm
    exact wpListIn_nil (hp σ w a (Tr.refl m) er mk)
  | o :: l, e, h, nx, σ, a, w, r, hm, er, m, mk, hp => by
    have hr : r ≠ .bad := fun hh => by rw [hh] at hp; exact hp
    have hm : oo o.guard (mStep P G n call o e h nx (mOps P G n call ops l)) (fun g => oo (mGuard ops e g) .bad (fun b => bo b (mStep P G n call o e h nx (mOps P G n call ops l)) (mSkip n o e h nx (mOps P G n call ops l)))) = r := hm
    have run : Region.wanted o (yielded ops a.tmps) = true → mStep P G n call o e h nx (mOps P G n call ops l) = r → wpListIn (rF rd) 2 P ops Q (o :: l) a w := fun hw hs => by
      unfold wpListIn
      rw [if_pos hw]
      refine mStep_ok hc hs hr er m fun σ' a' w' e' h' nx' h1 h2 h3 h4 => ?_
      exact mOps_ok hc l h1 h3 h2.mr (by rw [h4]; exact mk.tr h2) (hp.shift h2)
    cases hg : o.guard with
    | none =>
      rw [hg, oo_none] at hm
      exact run (by simp [Region.wanted, hg]) hm
    | some g =>
      rw [hg, oo_some] at hm
      obtain ⟨b, hb, hm⟩ := oo_inv hm (fun hh => hr hh.symm)
      have hw := guard_ok (ops := ops) er hg hb
      cases b with
      | true => exact run hw hm
      | false =>
        rw [bo_false] at hm
        obtain ⟨e', hpt, hm⟩ := oo_inv (show oo (mPut n e o.dst undef) .bad (fun e' => mOps P G n call ops l e' h nx) = r from hm) (fun hh => hr hh.symm)
        unfold wpListIn
        rw [if_neg (by simp [hw])]
        exact ⟨fun f _ => rF_fn rd f, mOps_ok hc l hm (er.put hpt VR.undef) m (by rw [put_defers]; exact mk) hp⟩
/-- This way of the machine stands for this statement. -/
def CodeOk (P : Program) (G n : Nat) (rd : Option Nat) (f : ContF) (c : Code) : Prop := ∀ e h nx σ a w Q b0, ER σ n e a → MR G σ h.get nx w → Mk b0 σ h.get w a.defers → b0 ≤ w.heap.size → Post G n b0 σ h nx w Q (f e h nx) → c.wpIn (rF rd) 2 P Q a w
def RegOk (P : Program) (G n : Nat) (dr : RegF) : Prop := ∀ rd id ops, CodeOk P G n rd (dr ops) (.region id ops true)
theorem seq_ok {f g : ContF} {x y : Code} (hx : CodeOk P G n rd f x) (hy : CodeOk P G n rd g y) : CodeOk P G n rd (cSeq f g) (.seq x y) := fun e h nx σ a w Q b0 er m mk hb hp => by
  refine wpIn_seq (hx e h nx σ a w _ b0 er m mk hb ?_)
  have hp : Post G n b0 σ h nx w Q (@Out.rec (fun _ => Out) .bad g .ext .ret (f e h nx)) := hp
  cases hf : f e h nx with
  | bad => rw [hf] at hp; exact hp
  | nrm e1 h1 n1 => rw [hf] at hp; exact fun σ1 w1 a1 t1 r1 mk1 => hy e1 h1 n1 σ1 a1 w1 Q b0 r1 t1.mr mk1 (Nat.le_trans hb t1.size) (hp.shift t1)
  | ext id e1 h1 n1 => rw [hf] at hp; exact hp
  | ret e1 h1 n1 => rw [hf] at hp; exact hp
theorem cond_ok {f g : ContF} {x : Operand} {y z : Code} (hy : CodeOk P G n rd f y) (hz : CodeOk P G n rd g z) : CodeOk P G n rd (cCond G x f g) (.cond x y z) := fun e h nx σ a w Q b0 er m mk hb hp => by
  unfold cCond at hp
  split at hp
  · rename_i t ht
    have hx := (er.oe m x _ ht).scal_inv rfl
    cases t with
    | true => exact wpIn_cond_true hx (hy e h nx σ a w Q b0 er m mk hb hp)
    | false => exact wpIn_cond_false hx (hz e h nx σ a w Q b0 er m mk hb hp)
  · exact hp.elim
theorem block_ok {f : ContF} {id : Nat} {c : Code} (hc : CodeOk P G n rd f c) : CodeOk P G n rd (cBlock id f) (.block id c) := fun e h nx σ a w Q b0 er m mk hb hp => by
  refine wpIn_block (hc e h nx σ a w _ b0 er m mk hb ?_)
  have hp : Post G n b0 σ h nx w Q (@Out.rec (fun _ => Out) .bad .nrm (fun id' e' h' nx' => bo (Nat.beq id' id) (.nrm e' h' nx') (.ext id' e' h' nx')) .ret (f e h nx)) := hp
  cases hf : f e h nx with
  | bad => rw [hf] at hp; exact hp
  | nrm e1 h1 n1 => rw [hf] at hp; exact hp
  | ret e1 h1 n1 => rw [hf] at hp; exact hp
  | ext id' e1 h1 n1 =>
    rw [hf] at hp
    intro σ1 w1 a1 t1 r1 mk1
    simp only [Exit.inBlock]
    cases hb : Nat.beq id' id with
    | true =>
      have := Nat.eq_of_beq_eq_true hb; subst this
      have hp : Post G n b0 σ h nx w Q (bo (Nat.beq id' id') (.nrm e1 h1 n1) (.ext id' e1 h1 n1)) := hp
      rw [hb] at hp
      rw [if_pos rfl]; exact hp σ1 w1 a1 t1 r1 mk1
    | false =>
      have hne : id' ≠ id := fun e => by subst e; simp at hb
      have hp : Post G n b0 σ h nx w Q (bo (Nat.beq id' id) (.nrm e1 h1 n1) (.ext id' e1 h1 n1)) := hp
      rw [hb] at hp
      rw [if_neg hne]; exact hp σ1 w1 a1 t1 r1 mk1
theorem loop_ok {f : ContF} {c : Code} (hc : CodeOk P G n rd f c) (fuel : Nat) : CodeOk P G n rd (mLoop f fuel) (.loop c) := fun e h nx σ a w Q b0 er m mk hb hp => by
  refine wpIn_loop_rounds fuel ?_
  induction fuel generalizing e h nx σ a w with
  | zero => exact hp.elim
  | succ k ih =>
    rw [roundsIn_succ]
    refine hc e h nx σ a w _ b0 er m mk hb ?_
    have hp : Post G n b0 σ h nx w Q (@Out.rec (fun _ => Out) .bad (mLoop f k) .ext .ret (f e h nx)) := hp
    cases hf : f e h nx with
    | bad => rw [hf] at hp; exact hp
    | nrm e1 h1 n1 => rw [hf] at hp; exact fun σ1 w1 a1 t1 r1 mk1 => ih e1 h1 n1 σ1 a1 w1 r1 t1.mr mk1 (Nat.le_trans hb t1.size) (hp.shift t1)
    | ext id e1 h1 n1 => rw [hf] at hp; exact hp
    | ret e1 h1 n1 => rw [hf] at hp; exact hp
theorem stepR_scope {b : Frame} {k : List Item} {cs : List Frame} {c : Code} : step P (lone (b.atR a (.code (.scope c) :: k)) cs w) = .next (lone (b.atR a (.code c :: .inScope c :: k)) cs w) :=
  step_lone_go (by simp [stepG, stepG.exec, Frame.atR])
theorem stepR_inScope {b : Frame} {k : List Item} {cs : List Frame} {c : Code} : step P (lone (b.atR a (.inScope c :: k)) cs w) = .next (lone (b.atR a k) cs w) :=
  step_lone_go (by simp [stepG, stepG.exec, Frame.atR])
theorem wpIn_scope {F : Fence} {j : Nat} {c : Code} (h : c.wpIn F j P (Exit.noGoto Q) a w) : (Code.scope c).wpIn F j P Q a w := by
  intro b k cs hro hb hr
  have h0 : (lone (b.atR a (.code (.scope c) :: k)) cs w).fenced P F := fenced_calm hb hr rfl
  obtain ⟨e, a₁, w₁, hq, harr⟩ := h b (.inScope c :: k) cs hro hb hr
  cases e with
  | normal => exact ⟨.normal, a₁, w₁, hq, .head h0 stepR_scope (StepsIn.trans harr (.one (fenced_calm hb hr rfl) stepR_inScope))⟩
  | exit id' =>
    have hx : exitTo id' (.inScope c :: k) = exitTo id' k := by simp [exitTo]
    exact ⟨.exit id', a₁, w₁, hq, fun k' hk => .head h0 stepR_scope (harr.1 k' (by rw [hx]; exact hk)),
      fun hr' hk => let ⟨k₁, h1, h2⟩ := harr.2 hr' (by rw [hx]; exact hk); ⟨k₁, h1, .head h0 stepR_scope h2⟩⟩
  | goto l => exact hq.elim
  | ret => exact ⟨_, a₁, w₁, hq, .of_steps (.one h0 stepR_scope) harr⟩
  | panic ch => exact ⟨_, a₁, w₁, hq, .of_steps (.one h0 stepR_scope) harr⟩
  | outgrown => exact ⟨_, a₁, w₁, hq, .of_steps (.one h0 stepR_scope) harr⟩
theorem scope_ok {f : ContF} {c : Code} (hc : CodeOk P G n rd f c) : CodeOk P G n rd f (.scope c) := fun e h nx σ a w Q b0 er m mk hb hp => by
  refine wpIn_scope (hc e h nx σ a w _ b0 er m mk hb ?_)
  cases hf : f e h nx with
  | bad => rw [hf] at hp; exact hp
  | nrm e1 h1 n1 => rw [hf] at hp; exact hp
  | ret e1 h1 n1 => rw [hf] at hp; exact hp
  | ext id e1 h1 n1 => rw [hf] at hp; exact hp
theorem lpSt_busy {st : Nat} (h : Nat.beq st 1 = false) : lpSt st ≠ .busy := by
  match st, h with
  | 0, _ => intro hh; cases hh
  | 1, h => simp at h
  | 2, _ => intro hh; cases hh
  | st + 3, _ => intro hh; cases hh
/-- The record of a range over a function. -/
theorem MR.lp {h : Hf} (m : MR G σ h nx w) {id st k : Nat} {e : Tb Value} {ps : List Nat} {asg body : Code} {pend : Option (Option Nat)} (hb : h id = some (.loop st k e ps asg body pend)) :
    ∃ (L : Loc) (r : Loop), σ id = some L ∧ L.base = 0 ∧ w.heap[L.blk]? = some (.loop r) ∧ r.state = lpSt st ∧ r.tmps.size = k ∧ (∀ j v, e.get j = some v → ∃ u, r.tmps[j]? = some u ∧ VR σ v u) ∧ r.params.toList = ps ∧ r.assign = asg ∧ r.body = body ∧ r.pending = pend.map jumpC := by
  obtain ⟨L, hL, h0, r, h1⟩ := m.blk id _ hb
  exact ⟨L, r, hL, h0, h1⟩
/-- The record is turned. -/
theorem MR.lpSet {h : Hp} (m : MR G σ h.get nx w) {id st st' k : Nat} {e : Tb Value} {ps : List Nat} {asg body : Code} {pend pend' : Option (Option Nat)} (hb : h.get id = some (.loop st k e ps asg body pend)) {L : Loc} (hL : σ id = some L) (f : Loop → Loop)
    (hf : ∀ r : Loop, (f r).state = lpSt st' ∧ (f r).tmps = r.tmps ∧ (f r).params = r.params ∧ (f r).assign = r.assign ∧ (f r).body = r.body ∧ (r.pending = pend.map jumpC → (f r).pending = pend'.map jumpC)) {r : Loop} (hr : w.heap[L.blk]? = some (.loop r)) :
    Tr G σ h.get nx w σ (h.put id (.loop st' k e ps asg body pend')).get nx (w.putObj L.blk (.loop (f r))) := by
  obtain ⟨L', r', hL', h0, h1, h2, h3, h4, h5, h6, h7, h8⟩ := m.lp hb
  rw [hL] at hL'; injection hL' with hL'; subst hL'
  rw [hr] at h1; injection h1 with h1; injection h1 with h1; subst h1
  have hlt : L.blk < w.heap.size := (Array.getElem?_eq_some_iff.1 hr).1
  obtain ⟨f1, f2, f3, f4, f5, f6⟩ := hf r
  rw [Tb.put_fun]
  exact m.upd hb hL ⟨h0, f r, World.putObj_heap_same hlt, f1, by rw [f2]; exact h3, by rw [f2]; exact h4, by rw [f3]; exact h5, by rw [f4]; exact h6, by rw [f5]; exact h7, f6 h8⟩ ⟨rfl, rfl, rfl⟩ World.putObj_size (fun r hne => World.putObj_heap_other hne)
theorem alloc_old (w : World) (o : Obj) {r : Nat} (hr : r < w.heap.size) : (w.alloc o).heap[r]? = w.heap[r]? := by
  show (w.heap.push o)[r]? = _
  rw [Array.getElem?_push, if_neg (by omega)]
theorem rangeF_ok {g : Operand} {ps : Array Nat} {asg body : Code} (hc : CallsOk P G call) : CodeOk P G n none (mRangeF P G n call g ps asg body) (.rangeFunc g ps asg body) := fun e h nx σ a w Q b0 er m mk hb0 hp => by
  unfold mRangeF at hp
  split at hp
  · rename_i f xs cs hg
    cases hcb : callB P f with
    | false => rw [hcb] at hp; exact hp.elim
    | true =>
      rw [hcb, bo_true, putS_eq, natS_eq] at hp
      obtain ⟨ys, ys', hu, hx, hx'⟩ := (er.oe m g _ hg).func_inv
      refine wpIn_rangeFunc fun fn _ => ?_
      have t1 := m.adopt (w' := (w.alloc (.deferred (some []))).alloc (.loop { state := .ready, pending := none, fn := fn, tmps := a.tmps, params := ps, assign := asg, body := body, defers := w.heap.size }))
        ⟨w.heap.size + 1, 0, 0⟩ (.loop 0 n e ps.toList asg body none) (by simp) ⟨rfl, rfl, rfl⟩ (by simp; omega)
        (fun r hr => by rw [alloc_old _ _ (by rw [World.size_alloc]; omega), alloc_old _ _ hr])
        (fun σ' hs => ⟨rfl, _, by have := World.alloc_heap_new (w.alloc (.deferred (some []))) (.loop { state := .ready, pending := none, fn := fn, tmps := a.tmps, params := ps, assign := asg, body := body, defers := w.heap.size }); rw [World.size_alloc] at this; exact this, rfl, er.size, fun k v hk => let ⟨u, hu, hr⟩ := er.get k v hk; ⟨u, hu, hr.mono hs⟩, rfl, rfl, rfl, rfl⟩)
      generalize hw1 : (w.alloc (.deferred (some []))).alloc (.loop { state := .ready, pending := none, fn := fn, tmps := a.tmps, params := ps, assign := asg, body := body, defers := w.heap.size }) = w1 at t1
      have hd1 : w1.heap[w.heap.size]? = some (.deferred (some [])) := by rw [← hw1, alloc_old _ _ (by rw [World.size_alloc]; omega)]; exact World.alloc_heap_new _ _
      have hs1 : w1.heap.size = w.heap.size + 2 := by rw [← hw1]; simp
      generalize hσ1 : (fun i => if i = nx then some (⟨w.heap.size + 1, 0, 0⟩ : Loc) else σ i) = σ1 at t1
      have hL1 : σ1 nx = some ⟨w.heap.size + 1, 0, 0⟩ := by rw [← hσ1]; simp
      rw [← Tb.put_fun] at t1
      have mk1 : Mk b0 σ1 (h.put nx (.loop 0 n e ps.toList asg body none)).get w1 ({ target := .collected w.heap.size, args := #[] } :: a.defers) := by
        obtain ⟨bs, m1, m2, m3⟩ := mk.tr t1
        obtain ⟨bs0, m4, _, m5⟩ := mk
        refine ⟨w.heap.size :: bs, by rw [m1]; rfl, List.nodup_cons.2 ⟨fun hh => ?_, m2⟩, fun b hb => ?_⟩
        · have he : bs = bs0 := by
            have := m1.symm.trans m4
            exact (List.map_inj_right (fun x y hxy => by simpa using hxy)).1 this
          have := (m5 _ (he ▸ hh)).2.1
          omega
        · rcases List.mem_cons.1 hb with rfl | hb
          · refine ⟨hb0, by omega, hd1, fun id L hi hs he => ?_⟩
            rw [← hσ1] at hs
            by_cases e1 : id = nx
            · simp only [if_pos e1] at hs; injection hs with hs; subst hs; simp at he
            · simp only [if_neg e1] at hs
              rw [Tb.get_put, if_neg e1] at hi
              obtain ⟨B, hB⟩ := Option.isSome_iff_exists.1 hi
              obtain ⟨L', h1, h2⟩ := m.blk id B hB
              rw [hs] at h1; injection h1 with h1; subst h1
              have := h2.lt; omega
          · exact m3 b hb
      have hinv : (invoke (.fn (.func f) ⟨ys'⟩) (⟨ys⟩ ++ #[.func (.yield (w.heap.size + 1)) #[] #[]])).run P w1 = .ok (.enter f ⟨ys ++ ([.func (.yield (w.heap.size + 1)) ⟨[]⟩ ⟨[]⟩] ++ ys')⟩) w1 := by
        have e1 : (⟨ys ++ ([.func (.yield (w.heap.size + 1)) ⟨[]⟩ ⟨[]⟩] ++ ys')⟩ : Array Value) = ((⟨ys⟩ : Array Value) ++ #[.func (.yield (w.heap.size + 1)) #[] #[]]) ++ (⟨ys'⟩ : Array Value) := by
          apply Array.ext'; simp
        unfold invoke
        simp only [callB_ok hcb, e1]
      refine ⟨w.heap.size + 1, [{ target := .collected w.heap.size, args := #[] }], w1, { target := .fn (.func f) ⟨ys'⟩, args := ⟨ys⟩ ++ #[.func (.yield (w.heap.size + 1)) #[] #[]] }, w1, f, _, w1, by rw [rF_round, run_enterLoop_outer, hw1], ?_, fun f' _ => rF_fn _ f', hinv, fun hd => by rw [rF_depth] at hd; (cases hd), ?_⟩
      · simp only [resolve, hu, Deferred.ofValue, Sem.run_pure]; simp [Act.eval]
      cases hq : call f (xs ++ ([.func (.yield nx) ⟨[]⟩ ⟨[]⟩] ++ cs)) (h.put nx (.loop 0 n e ps.toList asg body none)) (nx + 1) with
      | bad => rw [hq] at hp; exact hp.elim
      | ok v h2 nx2 =>
        rw [hq] at hp
        have hcall := hc.fn f _ _ _ v h2 nx2 (callB_lt hcb) hq σ1 w1 _ ((hx.mono t1.ext).append (VRs.append (.yld hL1 .nil) (hx'.mono t1.ext))) t1.mr
        refine (calls_rF hcall 1).mono fun x w2 ⟨σ2, u, hx2, _, t2⟩ => ?_
        subst hx2
        simp only at hp
        split at hp
        · rename_i st n' e' ps' asg' body' pend hbl
          obtain ⟨L2, r, hL2, _, hr, hst, _, _, _, _, _, hpend⟩ := t2.mr.lp hbl
          have hLe : L2 = ⟨w.heap.size + 1, 0, 0⟩ := by
            have := t2.ext nx _ hL1
            rw [hL2] at this; injection this
          subst hLe
          cases hbz : Nat.beq st 1 with
          | true => rw [hbz] at hp; exact hp.elim
          | false =>
            rw [hbz, bo_false, putS_eq] at hp
            have t3 := t2.mr.lpSet (st' := 3) (pend' := pend) hbl hL2 (fun r => { r with state := .exhausted }) (fun r => ⟨rfl, rfl, rfl, rfl, rfl, fun h => h⟩) hr
            have tt := t1.trans (t2.trans t3)
            refine ⟨_, _, run_endLoop hr (by rw [hst]; exact lpSt_busy hbz), ?_⟩
            have er' : ER σ2 n e { a with defers := [{ target := .collected w.heap.size, args := #[] }] ++ a.defers } := ⟨er.size, (er.mono tt.ext).get⟩
            have mk' := (mk1.tr t2).tr t3
            dsimp only at tt mk' ⊢
            generalize w2.putObj (w.heap.size + 1) (.loop { r with state := .exhausted }) = w4 at tt mk' ⊢
            rw [hpend]
            cases pend with
            | none => exact hp σ2 _ _ tt er' mk'
            | some j =>
              cases j with
              | none => exact wpIn_ret (hp σ2 _ _ tt er' mk')
              | some id => exact wpIn_exit (hp σ2 _ _ tt er' mk')
        · exact hp.elim
  · exact hp.elim
theorem code_ok {dr : RegF} (rg : Bool) (hrg : rg = true → rd = none) (fuel : Nat) (hc : CallsOk P G call) (hd : RegOk P G n dr) : ∀ c, CodeOk P G n rd (mCode P G n fuel call dr rg c) c := by
  intro c
  induction c with
  | skip => exact fun e h nx σ a w Q b0 er m mk hb hp => wpIn_skip (hp σ w a (Tr.refl m) er mk)
  | region id ops draw =>
    cases draw with
    | true => exact hd rd id ops
    | false => exact fun e h nx σ a w Q b0 er m mk hb hp => wpIn_region_list (mOps_ok hc _ rfl er m mk hp)
  | seq x y hx hy => exact seq_ok hx hy
  | cond x y z hy hz => exact cond_ok hy hz
  | block id c ih => exact block_ok ih
  | loop c ih => exact loop_ok ih fuel
  | rangeFunc g ps asg body _ _ =>
    cases rg with
    | true => rw [hrg rfl]; exact rangeF_ok hc
    | false => exact fun e h nx σ a w Q b0 er m mk hb hp => hp.elim
  | exit id => exact fun e h nx σ a w Q b0 er m mk hb hp => wpIn_exit (hp σ w a (Tr.refl m) er mk)
  | scope c ih => exact scope_ok ih
  | label l => exact fun e h nx σ a w Q b0 er m mk hb hp => wpIn_label (hp σ w a (Tr.refl m) er mk)
  | ret => exact fun e h nx σ a w Q b0 er m mk hb hp => wpIn_ret (hp σ w a (Tr.refl m) er mk)
  | _ => exact fun e h nx σ a w Q b0 er m mk hb hp => hp.elim
theorem loadVar_ok {t : TypeId} {y : Value} (hm : mLoad P h 0 t (some y) = .ok v h' nx') (hy : VR σ y u) (m : MR G σ h.get nx w) : ∃ ad x, u = .pointer (some ad) ∧ VR σ v x ∧ (loadVar t ad).run P w = .ok x w := by
  unfold mLoad at hm
  split at hm
  · rename_i id off h1
    injection h1 with h1; subst h1
    obtain ⟨L, hL, hu⟩ := hy.ptr_inv
    split at hm
    · rename_i el n k c hb
      split at hm
      · rename_i hr
        split at hm
        · rename_i v' hv
          obtain ⟨rfl, rfl, rfl⟩ := ok_inj hm
          obtain ⟨x, hc, hvu⟩ := m.cell hb hL hv
          refine ⟨_, x, hu, hvu, ?_⟩
          simp only [loadVar, Sem.run_bind, (run_isAgg hr w).1, Result.andThen_ok, Option.isSome_none, Bool.false_eq_true, if_false]
          simp [hc]
        · cases hm
      · rename_i j hr
        split at hm
        · rename_i l hl
          obtain ⟨rfl, rfl, rfl⟩ := ok_inj hm
          obtain ⟨us, h2, h3, h4⟩ := m.ldN hb hL j off hl
          obtain ⟨i, hi, hs⟩ := (run_isAgg hr w).2 j rfl
          have hcells := rangeAt_loadCells (P := P) h4
          rw [h3] at hcells
          refine ⟨_, .agg ⟨us⟩, hu, .agg h2 .nil, ?_⟩
          simp [loadVar, (run_isAgg hr w).1, sizeOf, typeInfo, hi, hs, hcells]
        · cases hm
      · cases hm
    · cases hm
  · cases hm
/-- One result. -/
def resVal (tmps : Array Value) : ResultVar → Sem Value
  | .tmp t => pure (tmps.getD t Go.undef)
  | .cell ad t => do loadVar t (← asAddr (tmps.getD ad Go.undef))
theorem mRes_ok (er : ER σ n e a) (m : MR G σ h.get nx w) : ∀ {l : List ResultVar} {vs : List Value}, mRes P e h l = some vs → ∃ us, VRs σ vs us ∧ (l.mapM (resVal a.tmps)).run P w = .ok us w
  | [], vs, hm => by injection hm with hm; subst hm; exact ⟨[], .nil, rfl⟩
  | r :: l, vs, hm => by
    have hm : (match (match r with | .tmp t => e.get t | .cell ad t => (match mLoad P h 0 t (e.get ad) with | .ok v _ _ => some v | .bad => none)), mRes P e h l with
      | some v, some vs => some (v :: vs)
      | _, _ => none) = some vs := hm
    split at hm
    · rename_i v vs' h1 h2
      injection hm with hm; subst hm
      obtain ⟨us, h3, h4⟩ := mRes_ok er m h2
      have key : ∀ x, VR σ v x → (resVal a.tmps r).run P w = .ok x w → ∃ us, VRs σ (v :: vs') us ∧ ((r :: l).mapM (resVal a.tmps)).run P w = .ok us w := fun x hv hx =>
        ⟨x :: us, .cons hv h3, by simp only [List.mapM_cons, Sem.run_bind, Sem.run_pure, Result.andThen_ok, hx, h4]⟩
      cases r with
      | tmp t =>
        obtain ⟨x, hx, hv⟩ := er.get t v h1
        exact key x hv (by
          have hg : a.tmps.getD t Go.undef = x := by simp [hx]
          simp only [resVal, hg]; rfl)
      | cell ad t =>
        simp only at h1
        cases hq : e.get ad with
        | none => rw [hq] at h1; simp [mLoad] at h1
        | some y =>
          rw [hq] at h1
          split at h1
          · rename_i v2 h5 n5 hl
            injection h1 with h1; subst h1
            obtain ⟨x0, hx0, hv0⟩ := er.get ad y hq
            obtain ⟨adr, x, hp, hv, hrun⟩ := loadVar_ok (P := P) hl hv0 m
            subst hp
            exact key x hv (by
              have hg : a.tmps.getD ad Go.undef = .pointer (some adr) := by simp [hx0]
              simp only [resVal, Sem.run_bind, hg, asAddr, Sem.run_pure, Result.andThen_ok, hrun])
          · cases h1
    · cases hm
theorem mRet_ok {vs us : List Value} (hv : VRs σ vs us) : VR σ (mRet vs) (mRet us) := by
  match vs, us, hv with
  | [], [], hv => exact .tuple .nil .nil
  | [x], [y], hv => exact hv
  | x :: x' :: vs, y :: y' :: us, hv => exact .tuple hv .nil
  | [], _ :: _, hv => cases hv
  | _ :: _, [], hv => have := hv.len; simp at this
  | [_], _ :: _ :: _, hv => have := hv.len; simp at this
  | _ :: _ :: _, [_], hv => have := hv.len; simp at this
theorem results_run {fn : Func} {us : List Value} (hr : (fn.results.toList.mapM (resVal a.tmps)).run P w = .ok us w) : (results fn a.tmps).run P w = .ok (mRet us) w := by
  have he : results fn a.tmps = (do let vs ← fn.results.mapM (resVal a.tmps); pure (if h : vs.size = 1 then vs[0] else .tuple vs)) := by
    unfold results
    congr 1
  rw [he, Array.mapM_eq_mapM_toList]
  simp only [Sem.run_bind, Sem.run_map, hr, Result.andThen_ok]
  match us with
  | [] => rfl
  | [x] => rfl
  | x :: y :: us => rfl
end
/-- The world differs in blocks that no number bears alone. -/
structure Sh (b0 : Nat) (σ : Sg) (h : Hf) (w w' : World) : Prop where
  os : w'.os = w.os
  tape : w'.tape = w.tape
  output : w'.output = w.output
  size : w'.heap.size = w.heap.size
  blk : ∀ r, (r < b0 ∨ ∃ id L, (h id).isSome = true ∧ σ id = some L ∧ L.blk = r) → w'.heap[r]? = w.heap[r]?
theorem Sh.mr {G b0 nx : Nat} {σ : Sg} {h : Hf} {w w' : World} (s : Sh b0 σ h w w') (m : MR G σ h nx w) : MR G σ h nx w' :=
  ⟨fun id B hb => let ⟨L, h1, h2⟩ := m.blk id B hb; ⟨L, h1, h2.keep (Sg.le.refl σ) (s.blk _ (.inr ⟨id, L, by rw [hb]; rfl, h1, rfl⟩))⟩, m.sep, m.free, m.glob, m.gle⟩
theorem Tr.sh {G b0 nx nx' : Nat} {σ σ' : Sg} {h h' : Hf} {w w' w'' : World} (t : Tr G σ h nx w σ' h' nx' w') (s : Sh b0 σ' h' w' w'') (hb : w.heap.size ≤ b0) : Tr G σ h nx w σ' h' nx' w'' where
  le := t.le
  ext := t.ext
  old := t.old
  mr := s.mr t.mr
  os := s.os.trans t.os
  tape := s.tape.trans t.tape
  output := s.output.trans t.output
  size := by rw [s.size]; exact t.size
  fr r hr hn := (s.blk r (.inl (by omega))).trans (t.fr r hr hn)
  src := t.src
  dom := t.dom
  qt r hr hq := ⟨(s.blk r (.inl (by omega))).trans (t.qt r hr hq).1, (t.qt r hr hq).2⟩
/-- A function is left: the marks' blocks are shut. -/
theorem leaves_ok {P : Program} {fn : Func} {tmps : Array Value} {R : Ending → World → Prop} {b0 : Nat} {σ : Sg} {h : Hf} {w0 : World} (fin : ∀ w', Sh b0 σ h w0 w' → ∃ v, (results fn tmps).run P w' = .ok v w' ∧ R (.returned v) w') :
    ∀ (bs : List Nat) (w : World), Sh b0 σ h w0 w → bs.Nodup → (∀ b ∈ bs, b0 ≤ b ∧ b < w.heap.size ∧ w.heap[b]? = some (.deferred (some [])) ∧ ∀ id L, (h id).isSome = true → σ id = some L → L.blk ≠ b) →
      LeavesInM Fence.wide 2 P fn tmps R (bs.map (fun b => { target := .collected b, args := #[] })) .returning w
  | [], w, hs, _, _ => fin w hs
  | b :: bs, w, hs, hn, hb => by
    obtain ⟨h1, h2, h3, h4⟩ := hb b (by simp)
    obtain ⟨hn1, hn2⟩ := List.nodup_cons.1 hn
    refine ⟨by simp, .inl ⟨b, _, rfl, run_takeDeferred h3, ?_⟩⟩
    refine leaves_ok fin bs _ ⟨hs.os, hs.tape, hs.output, by rw [World.putObj_size]; exact hs.size, fun r hr => ?_⟩ hn2 fun b' hb' => ?_
    · refine (World.putObj_heap_other fun e => ?_).trans (hs.blk r hr)
      subst e
      rcases hr with hr | ⟨id, L, h5, h6, h7⟩
      · omega
      · exact h4 id L h5 h6 h7
    · obtain ⟨h5, h6, h7, h8⟩ := hb b' (by simp [hb'])
      exact ⟨h5, by rw [World.putObj_size]; exact h6, (World.putObj_heap_other fun e => hn1 (by rw [← e]; exact hb')).trans h7, h8⟩
/-- A call by its body. -/
theorem body_ok {P : Program} {G fuel : Nat} {dr : CallF → Nat → RegF} {call : CallF} (hc : CallsOk P G call) (hd : ∀ n, RegOk P G n (dr call n)) (f : FuncId) (args : List Value) (h : Hp) (nx : Nat) (v : Value) (h' : Hp) (nx' : Nat) (hm : mBody P G fuel dr call f args h nx = .ok v h' nx') :
    ∀ σ w us, VRs σ args us → MR G σ h.get nx w → Calls P f ⟨us⟩ w fun x w' => ∃ σ' u, x = .returned u ∧ VR σ' v u ∧ Tr G σ h.get nx w σ' h'.get nx' w' := by
  intro σ w us hv m
  obtain ⟨fn, hf, hm⟩ := oo_inv (show oo (P.funcs[f]?) .bad (fun fn => oo fn.body .bad (fun c => bo (Nat.ble args.length fn.ntmps) (mEnd P fn (mCode P G fn.ntmps fuel call (dr call fn.ntmps) true c (Tb.of args) h nx)) .bad)) = .ok v h' nx' from hm) (by simp)
  obtain ⟨c, hb, hm⟩ := oo_inv hm (by simp)
  obtain ⟨hle, hm⟩ := bo_inv hm (by simp)
  have hle := Nat.le_of_ble_eq_true hle
  have hlen := hv.len
  refine (callsIn_wide (n := 2)).1 (callsIn_of_wp_marks hf hb trivial ?_)
  have er : ER σ fn.ntmps (Tb.of args) { tmps := (⟨us⟩ : Array Value) ++ Array.replicate (fn.ntmps - us.length) Go.undef, defers := [] } := by
    refine ⟨by simp; omega, fun k v hk => ?_⟩
    rw [Tb.get_of] at hk
    obtain ⟨u, hu, hr⟩ := hv.get hk
    have hlt := (List.getElem?_eq_some_iff.1 hu).1
    exact ⟨u, by rw [Array.getElem?_append_left (by simpa using hlt)]; simpa using hu, hr⟩
  refine code_ok (rd := none) true (fun _ => rfl) fuel hc (hd fn.ntmps) c (Tb.of args) h nx σ _ w _ w.heap.size er m Mk.nil (Nat.le_refl _) ?_
  cases hr : mCode P G fn.ntmps fuel call (dr call fn.ntmps) true c (Tb.of args) h nx with
  | bad => rw [hr] at hm; cases hm
  | ext id e1 h1 n1 => rw [hr] at hm; cases hm
  | nrm e1 h1 n1 =>
    rw [hr] at hm
    obtain ⟨hem, hm⟩ := bo_inv (show bo fn.results.toList.isEmpty (OR.ok (mRet []) h1 n1) OR.bad = OR.ok v h' nx' from hm) (by simp)
    obtain ⟨rfl, rfl, rfl⟩ := ok_inj hm
    intro σ' w' a' ht er' mk'
    have hl : fn.results.toList = [] := by simpa using hem
    obtain ⟨bs, hds, hnd, hbs⟩ := mk'
    show LeavesInM _ _ _ _ _ _ a'.defers _ _
    rw [hds]
    refine leaves_ok (b0 := w.heap.size) (σ := σ') (h := h1.get) (w0 := w') (fun w2 hs => ?_) bs w' ⟨rfl, rfl, rfl, rfl, fun _ _ => rfl⟩ hnd hbs
    exact ⟨mRet [], results_run (by rw [hl]; rfl), σ', mRet [], rfl, mRet_ok .nil, ht.sh hs (Nat.le_refl _)⟩
  | ret e1 h1 n1 =>
    rw [hr] at hm
    obtain ⟨vs, hvs, hm⟩ := oo_inv (show oo (mRes P e1 h1 fn.results.toList) OR.bad (fun vs => OR.ok (mRet vs) h1 n1) = OR.ok v h' nx' from hm) (by simp)
    obtain ⟨rfl, rfl, rfl⟩ := ok_inj hm
    intro σ' w' a' ht er' mk'
    obtain ⟨bs, hds, hnd, hbs⟩ := mk'
    show LeavesInM _ _ _ _ _ _ a'.defers _ _
    rw [hds]
    refine leaves_ok (b0 := w.heap.size) (σ := σ') (h := h1.get) (w0 := w') (fun w2 hs => ?_) bs w' ⟨rfl, rfl, rfl, rfl, fun _ _ => rfl⟩ hnd hbs
    obtain ⟨us', h2, h3⟩ := mRes_ok er' (hs.mr ht.mr) hvs
    exact ⟨mRet us', results_run h3, σ', mRet us', rfl, mRet_ok h2, ht.sh hs (Nat.le_refl _)⟩
theorem putL_ok {σ : Sg} {n : Nat} : ∀ (ps : List Nat) (args us : List Value) (e e' : Tb Value) (a : Array Value), putL n ps args e = some e' → VRs σ args us → a.size = n → (∀ k v, e.get k = some v → ∃ u, a[k]? = some u ∧ VR σ v u) →
    us.length = ps.length ∧ ((ps.zip us).foldl (fun tmps (p : Nat × Value) => tmps.setIfInBounds p.1 p.2) a).size = n ∧ ∀ k v, e'.get k = some v → ∃ u, ((ps.zip us).foldl (fun tmps (p : Nat × Value) => tmps.setIfInBounds p.1 p.2) a)[k]? = some u ∧ VR σ v u
  | [], args, us, e, e', a, hp, hv, hs, hg => by
    cases args with
    | nil =>
      injection hp with hp; subst hp
      obtain rfl := hv.inv_nil
      exact ⟨rfl, hs, hg⟩
    | cons x xs => cases hp
  | d :: ps, args, us, e, e', a, hp, hv, hs, hg => by
    cases args with
    | nil => cases hp
    | cons x xs =>
      obtain ⟨y, ys, rfl, hxy, hv⟩ := hv.inv
      obtain ⟨hd, hp⟩ := bo_inv (show bo (Nat.blt d n) (valS x (fun v => putS e d v (fun e => putL n ps xs e))) none = some e' from hp) (by simp)
      rw [valS_eq, putS_eq] at hp
      have hd := blt_lt hd
      obtain ⟨h1, h2, h3⟩ := putL_ok ps xs ys (e.put d x) e' (a.setIfInBounds d y) hp hv (by simp [hs]) (fun k v hk => by
        rw [Tb.get_put] at hk
        by_cases hkd : k = d
        · subst hkd
          rw [if_pos rfl] at hk; injection hk with hk; subst hk
          exact ⟨y, by rw [Array.getElem?_setIfInBounds_self_of_lt (by rw [hs]; exact hd)], hxy⟩
        · rw [if_neg hkd] at hk
          rw [Array.getElem?_setIfInBounds_ne (Ne.symm hkd)]
          exact hg k v hk)
      exact ⟨by simp [h1], h2, h3⟩
theorem rndEnd_ok {P : Program} {G l st nx nx' : Nat} {pend : Option (Option Nat)} {b : Bool} {h h' : Hp} {v : Value} (hm : rndEnd l st pend b h nx = .ok v h' nx') (jump : Option Code) (hst : lpSt st = (if jump.isNone then .ready else .done)) (hj : jump = pend.map jumpC) (hjb : jump.isNone = b)
    {σ : Sg} {w : World} (m : MR G σ h.get nx w) {L : Loc} (hL : σ l = some L) : ∃ w', (Instr.endRound L.blk jump).run P w = .ok (.bool b) w' ∧ v = .bool b ∧ Tr G σ h.get nx w σ h'.get nx' w' := by
  unfold rndEnd at hm
  split at hm
  · rename_i st' k e ps asg body pd hb
    rw [putS_eq] at hm
    obtain ⟨rfl, rfl, rfl⟩ := ok_inj hm
    obtain ⟨L', r, hL', _, hr, _⟩ := m.lp hb
    rw [hL] at hL'; injection hL' with hL'; subst hL'
    exact ⟨_, by rw [run_endRound jump hr, hjb], rfl, m.lpSet (st' := st) (pend' := pend) hb hL (fun r => { r with state := if jump.isNone then .ready else .done, pending := jump }) (fun r => ⟨hst.symm, rfl, rfl, rfl, rfl, fun _ => hj⟩) hr⟩
  · cases hm
theorem round_ok {P : Program} {G fuel : Nat} {dr : CallF → Nat → RegF} {call : CallF} (hc : CallsOk P G call) (hd : ∀ n, RegOk P G n (dr call n)) (l : Nat) (args : List Value) (h : Hp) (nx : Nat) (v : Value) (h' : Hp) (nx' : Nat) (hm : mRound P G fuel dr call l args h nx = .ok v h' nx') :
    ∀ σ w us, VRs σ args us → MR G σ h.get nx w → ∃ (L : Loc) (r : Loop), σ l = some L ∧ w.heap[L.blk]? = some (.loop r) ∧ us.length = r.params.size ∧
      RoundIn Fence.wide 2 P L.blk r.fn ((r.params.zip (⟨us⟩ : Array Value)).foldl (fun tmps (t, a) => tmps.setIfInBounds t a) r.tmps) r.assign r.body w (fun x w' => ∃ σ' u, x = .returned u ∧ VR σ' v u ∧ Tr G σ h.get nx w σ' h'.get nx' w') := by
  intro σ w us hv m
  unfold mRound at hm
  split at hm
  · rename_i n e ps asg body pd hb
    obtain ⟨e1, hpl, hm⟩ := oo_inv hm (by simp)
    obtain ⟨L, r, hL, hbase, hr, hst, hsz, hget, hps, hasg, hbody, hpend⟩ := m.lp hb
    obtain ⟨q1, q2, q3⟩ := putL_ok ps args us e e1 r.tmps hpl hv hsz hget
    have hfold : ((r.params.zip (⟨us⟩ : Array Value)).foldl (fun tmps (t, a) => tmps.setIfInBounds t a) r.tmps) = (ps.zip us).foldl (fun tmps (p : Nat × Value) => tmps.setIfInBounds p.1 p.2) r.tmps := by
      rw [← Array.foldl_toList, Array.toList_zip, hps]
    refine ⟨L, r, hL, hr, by rw [← Array.length_toList, hps]; exact q1, ?_⟩
    rw [hfold, hasg, hbody]
    generalize (ps.zip us).foldl (fun tmps (p : Nat × Value) => tmps.setIfInBounds p.1 p.2) r.tmps = tm at q2 q3
    have er : ER σ n e1 { tmps := tm, defers := [] } := ⟨q2, q3⟩
    refine roundIn_of_wpIn (F := Fence.wide) trivial ?_
    refine code_ok (rd := some L.blk) false (fun hh => by cases hh) fuel hc (hd n) asg e1 h nx σ _ w _ 0 er m Mk.nil (Nat.zero_le _) ?_
    cases hq : mCode P G n fuel call (dr call n) false asg e1 h nx with
    | bad => rw [hq] at hm; cases hm
    | ext id e2 h2 n2 => rw [hq] at hm; cases hm
    | ret e2 h2 n2 => rw [hq] at hm; cases hm
    | nrm e2 h2 n2 =>
      rw [hq] at hm
      simp only at hm
      intro σ2 w2 a2 t2 er2 mk2
      split at hm
      · rename_i n' e' ps' asg' body' pend' hb2
        rw [putS_eq] at hm
        obtain ⟨L2, r2, hL2, _, hr2, hst2, _⟩ := t2.mr.lp hb2
        have : L2 = L := by
          have := t2.ext l L hL
          rw [hL2] at this; injection this
        subst this
        have t3 := t2.mr.lpSet (st' := 1) (pend' := pend') hb2 hL2 (fun r => { r with state := .busy }) (fun r => ⟨rfl, rfl, rfl, rfl, rfl, fun h => h⟩) hr2
        refine ⟨_, run_beginRound hr2 hst2, ?_⟩
        refine code_ok (rd := some L2.blk) false (fun hh => by cases hh) fuel hc (hd n) body e2 _ n2 σ2 a2 _ _ 0 er2 t3.mr (mk2.tr t3) (Nat.zero_le _) ?_
        cases hq3 : mCode P G n fuel call (dr call n) false body e2 (h2.put l (.loop 1 n' e' ps' asg' body' pend')) n2 with
        | bad => rw [hq3] at hm; cases hm
        | nrm e3 h3 n3 =>
          rw [hq3] at hm
          intro σ3 w3 a3 t4 _ _
          obtain ⟨w4, h5, rfl, h6⟩ := rndEnd_ok (P := P) hm none rfl rfl rfl t4.mr (t4.ext _ _ hL2)
          exact ⟨_, w4, h5, σ3, _, rfl, VR.bool, (t2.trans t3).trans (t4.trans h6)⟩
        | ext id e3 h3 n3 =>
          rw [hq3] at hm
          intro σ3 w3 a3 t4 _ _
          obtain ⟨w4, h5, rfl, h6⟩ := rndEnd_ok (P := P) hm (some (.exit id)) rfl rfl rfl t4.mr (t4.ext _ _ hL2)
          exact ⟨_, w4, h5, σ3, _, rfl, VR.bool, (t2.trans t3).trans (t4.trans h6)⟩
        | ret e3 h3 n3 =>
          rw [hq3] at hm
          intro σ3 w3 a3 t4 _ _
          obtain ⟨w4, h5, rfl, h6⟩ := rndEnd_ok (P := P) hm (some .ret) rfl rfl rfl t4.mr (t4.ext _ _ hL2)
          exact ⟨_, w4, h5, σ3, _, rfl, VR.bool, (t2.trans t3).trans (t4.trans h6)⟩
      · cases hm
  · cases hm
theorem calls_ok {P : Program} {G fuel : Nat} {dr : CallF → Nat → RegF} {base : CallF} (hb : CallOk P G base) (hd : ∀ call n, CallsOk P G call → RegOk P G n (dr call n)) : ∀ d, CallsOk P G (mCalls P G fuel dr base d)
  | 0 => by
    refine ⟨fun f args h nx v h' nx' hlt hm => ?_, fun l args h nx v h' nx' hm => ?_⟩
    · have hm : bo (Nat.blt f P.funcs.size) (base f args h nx) OR.bad = .ok v h' nx' := hm
      exact hb f args h nx v h' nx' (bo_inv hm (by simp)).2
    · have hm : bo (Nat.blt (P.funcs.size + l) P.funcs.size) (base (P.funcs.size + l) args h nx) OR.bad = .ok v h' nx' := hm
      have := blt_lt (bo_inv hm (by simp)).1
      omega
  | d + 1 => by
    have ih := calls_ok (fuel := fuel) hb hd d
    refine ⟨fun f args h nx v h' nx' hlt hm => ?_, fun l args h nx v h' nx' hm => ?_⟩
    · have hm : bo (Nat.blt f P.funcs.size) (@OR.rec (fun _ => OR) (mBody P G fuel dr (mCalls P G fuel dr base d) f args h nx) .ok (base f args h nx)) (natS (Nat.sub f P.funcs.size) (fun l => mRound P G fuel dr (mCalls P G fuel dr base d) l args h nx)) = .ok v h' nx' := hm
      have hlt' : Nat.blt f P.funcs.size = true := Nat.ble_eq_true_of_le hlt
      rw [hlt', bo_true] at hm
      cases hq : base f args h nx with
      | bad => rw [hq] at hm; exact body_ok ih (fun n => hd _ n ih) f args h nx v h' nx' hm
      | ok v2 h2 n2 => rw [hq] at hm; exact hb f args h nx v h' nx' (hq.trans hm)
    · have hm : bo (Nat.blt (P.funcs.size + l) P.funcs.size) (@OR.rec (fun _ => OR) (mBody P G fuel dr (mCalls P G fuel dr base d) (P.funcs.size + l) args h nx) .ok (base (P.funcs.size + l) args h nx)) (natS (Nat.sub (P.funcs.size + l) P.funcs.size) (fun l => mRound P G fuel dr (mCalls P G fuel dr base d) l args h nx)) = .ok v h' nx' := hm
      cases hlt' : Nat.blt (P.funcs.size + l) P.funcs.size with
      | true => have := blt_lt hlt'; omega
      | false =>
        rw [hlt', bo_false, natS_eq, show Nat.sub (P.funcs.size + l) P.funcs.size = l from Nat.add_sub_cancel_left ..] at hm
        exact round_ok ih (fun n => hd _ n ih) l args h nx v h' nx' hm
end Go.Proofs.YtklciidffdnglaaDoor
