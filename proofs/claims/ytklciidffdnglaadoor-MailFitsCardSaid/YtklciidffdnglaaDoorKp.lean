/- The machine that runs closed code: a region that draws its order stands for the model; and so all calls do. Over any program. No condition. -/
import Derived.Test.YtklciidffdnglaaDoorKo
namespace Go.Proofs.YtklciidffdnglaaDoor
open Go.RowKit

/-- A table cut down to some slots. -/
noncomputable def cutT (e : Tb Value) (l : List Nat) : Tb Value := @List.rec Nat (fun _ => Tb Value) .lf (fun t _ ih => oo (e.get t) (ih.del t) (fun v => ih.put t v)) l
theorem cutT_get (e : Tb Value) (t : Nat) : ∀ l : List Nat, (cutT e l).get t = if t ∈ l then e.get t else none
  | [] => by simp [cutT, Tb.get_lf]
  | x :: l => by
    show (oo (e.get x) ((cutT e l).del x) (fun v => (cutT e l).put x v)).get t = _
    have ih := cutT_get e t l
    cases hx : e.get x with
    | none =>
      rw [oo_none, Tb.get_del]
      by_cases h : t = x
      · subst h; simp [hx]
      · rw [if_neg h, ih]; simp [h]
    | some v =>
      rw [oo_some, Tb.get_put]
      by_cases h : t = x
      · subst h; simp [hx]
      · rw [if_neg h, ih]; simp [h]
section
variable {P : Program} {G n : Nat} {rd : Option Nat} {D : List Deferred} {call : CallF} {ops : Array Oper} {nx0 : Nat} {ms : Nat → Nat} {st : Nat → DS} {σ0 : Sg} {h0 : Hf} {w0 : World}
/-- How things stand within such a region, some of its operations done. -/
structure RI (G n : Nat) (D : List Deferred) (ops : Array Oper) (nx0 : Nat) (st : Nat → DS) (σ0 : Sg) (h0 : Hf) (w0 : World) (listed : Array Bool) (a : Act) (w : World) (σ : Sg) (hs : Hf) (sn : Snap) : Prop where
  size : listed.size = ops.size
  closed : Closed ops (Ls listed)
  tr : Tr G σ0 h0 nx0 w0 σ hs sn.nx w
  sub : ∀ id B, sn.h.get id = some B → hs id = some B
  pend : ∀ j B, Ls listed j → (st (j + 1)).kd = 1 → tb sn.mt j = false → (st (j + 1)).F.head? = some (j, B) → hs (nx0 + j) = some B
  nmat : ∀ j, j < ops.size → tb sn.mt j = false → sn.h.get (nx0 + j) = none
  res : ∀ j, j < ops.size → ¬ Ls listed j → σ (nx0 + j) = none
  nxle : nx0 + ops.size ≤ sn.nx
  snap : SnapOf ops st (Ls listed) sn
  tsize : a.tmps.size = n
  defers : a.defers = D
  done : ∀ j o t, ops[j]? = some o → Ls listed j → o.dst = some t → ∃ u, a.tmps[t]? = some u ∧ VR σ (st (j + 1)).v u
  rest : ∀ t v, (∀ j o, ops[j]? = some o → Ls listed j → o.dst ≠ some t) → (st 0).e.get t = some v → ∃ u, a.tmps[t]? = some u ∧ VR σ v u
theorem Ls_set {listed : Array Bool} {i j : Nat} (hi : i < listed.size) : Ls (listed.setIfInBounds i true) j ↔ j = i ∨ Ls listed j := by
  unfold Ls
  by_cases h : i = j
  · subst h
    simp [hi]
  · rw [getD_set_ne false h]
    constructor
    · exact .inr
    · rintro (h' | h')
      · exact absurd h'.symm h
      · exact h'
variable {listed : Array Bool} {a : Act} {w : World} {σ : Sg} {hs : Hf} {sn : Snap}
/-- The slots that the next operation looks at. -/
theorem RI.look (ri : RI G n D ops nx0 st σ0 h0 w0 listed a w σ hs sn) (pl : Pl P G n call ops nx0 ms st) {i : Nat} {o : Oper} (ho : ops[i]? = some o) (hS : ¬ Ls listed i) (hpre : ∀ ed ∈ o.after, Region.binds .any ed = true → Ls listed ed.on) : ER σ n (cutT (st i).e (o.looksAt ops)) a := by
  have hiN := (Array.getElem?_eq_some_iff.1 ho).1
  have hbef := pl.before ri.closed i o ho hpre
  refine ⟨ri.tsize, fun t v hv => ?_⟩
  rw [cutT_get] at hv
  split at hv
  · rename_i hmem
    rcases pl.env t i (by omega) with ⟨j, oj, h1, h2, h3, h4⟩ | ⟨h1, h2⟩
    · rw [h4] at hv; injection hv with hv; subst hv
      by_cases hj : Ls listed j
      · exact ri.done j oj t h2 hj h3
      · obtain ⟨_, h5⟩ := pl.pair j i oj o h1 h2 ho
        rcases h5 with h5 | ⟨h5, _⟩
        · exact absurd (hbef j h5) hj
        · exact absurd hmem (h5 t h3)
    · rw [h2] at hv
      refine ri.rest t v (fun j oj hoj hj hd => ?_) hv
      by_cases hji : j < i
      · exact h1 j oj hji hoj hd
      · have hne : j ≠ i := fun e => by subst e; exact hS hj
        obtain ⟨_, h5⟩ := pl.pair i j o oj (by omega) ho hoj
        rcases h5 with h5 | ⟨_, h5⟩
        · exact hS (pl.before ri.closed j oj hoj (ri.closed j oj hoj hj) i h5)
        · exact h5 t hd hmem
  · cases hv
/-- The slots behind an operation. -/
theorem RI.slots (ri : RI G n D ops nx0 st σ0 h0 w0 listed a w σ hs sn) (pl : Pl P G n call ops nx0 ms st) {i : Nat} {o : Oper} (ho : ops[i]? = some o) {σ' : Sg} (hle : σ.le σ') {u : Value} (hv : VR σ' (st (i + 1)).v u) :
    (a.put o.dst u).tmps.size = n ∧ (a.put o.dst u).defers = D ∧ (∀ j oj t, ops[j]? = some oj → Ls (listed.setIfInBounds i true) j → oj.dst = some t → ∃ x, (a.put o.dst u).tmps[t]? = some x ∧ VR σ' (st (j + 1)).v x) ∧
      ∀ t v, (∀ j oj, ops[j]? = some oj → Ls (listed.setIfInBounds i true) j → oj.dst ≠ some t) → (st 0).e.get t = some v → ∃ x, (a.put o.dst u).tmps[t]? = some x ∧ VR σ' v x := by
  have hiN := (Array.getElem?_eq_some_iff.1 ho).1
  have hil : i < listed.size := by rw [ri.size]; exact hiN
  have hput := (pl.step i o ho).put
  have hne : ∀ t, o.dst ≠ some t → (a.put o.dst u).tmps[t]? = a.tmps[t]? := fun t ht => by
    cases hd : o.dst with
    | none => rfl
    | some d =>
      have : d ≠ t := fun e => ht (by rw [hd, e])
      simp only [Act.put]
      rw [Array.getElem?_setIfInBounds_ne this]
  have hself : ∀ t, o.dst = some t → (a.put o.dst u).tmps[t]? = some u := fun t ht => by
    rw [ht] at hput ⊢
    rw [mPut_some] at hput
    obtain ⟨h1, _⟩ := bo_inv hput (by simp)
    have := blt_lt h1
    simp only [Act.put]
    rw [Array.getElem?_setIfInBounds_self_of_lt (by rw [ri.tsize]; exact this)]
  refine ⟨by cases hd : o.dst <;> simp [Act.put, ri.tsize], by rw [put_defers]; exact ri.defers, fun j oj t hoj hj hd => ?_, fun t v hno hv0 => ?_⟩
  · by_cases e : j = i
    · subst e
      rw [ho] at hoj; injection hoj with hoj; subst hoj
      exact ⟨u, hself t hd, hv⟩
    · rcases (Ls_set hil).1 hj with h1 | h1
      · exact absurd h1 e
      · obtain ⟨x, hx, hr⟩ := ri.done j oj t hoj h1 hd
        have hdne : o.dst ≠ some t := fun h2 => by
          rcases Nat.lt_or_gt_of_ne e with h3 | h3
          · exact (pl.pair j i oj o h3 hoj ho).1 t hd h2
          · exact (pl.pair i j o oj h3 ho hoj).1 t h2 hd
        exact ⟨x, by rw [hne t hdne]; exact hx, hr.mono hle⟩
  · have hdne : o.dst ≠ some t := hno i o ho ((Ls_set hil).2 (.inl rfl))
    obtain ⟨x, hx, hr⟩ := ri.rest t v (fun j oj hoj hj => hno j oj hoj ((Ls_set hil).2 (.inr hj))) hv0
    exact ⟨x, by rw [hne t hdne]; exact hx, hr.mono hle⟩
theorem RI.closed' (ri : RI G n D ops nx0 st σ0 h0 w0 listed a w σ hs sn) {i : Nat} {o : Oper} (ho : ops[i]? = some o) (hpre : ∀ ed ∈ o.after, Region.binds .any ed = true → Ls listed ed.on) : Closed ops (Ls (listed.setIfInBounds i true)) := by
  have hil : i < listed.size := by rw [ri.size]; exact (Array.getElem?_eq_some_iff.1 ho).1
  intro j oj hoj hj ed hed hb
  rcases (Ls_set hil).1 hj with h1 | h1
  · subst h1
    rw [ho] at hoj; injection hoj with hoj; subst hoj
    exact (Ls_set hil).2 (.inr (hpre ed hed hb))
  · exact (Ls_set hil).2 (.inr (ri.closed j oj hoj h1 ed hed hb))
/-- The memory that an operation leans on is there. -/
theorem RI.lean (ri : RI G n D ops nx0 st σ0 h0 w0 listed a w σ hs sn) (pl : Pl P G n call ops nx0 ms st) {i : Nat} {o : Oper} (ho : ops[i]? = some o) (hpre : ∀ ed ∈ o.after, Region.binds .any ed = true → Ls listed ed.on) : ∀ id B, (dH nx0 (ms i) (st i).F sn).get id = some B → hs id = some B := fun id B h => by
  have hiN := (Array.getElem?_eq_some_iff.1 ho).1
  rcases dH_get h with h1 | ⟨j, h1, h2, h3, h4⟩
  · exact ri.sub id B h1
  · obtain ⟨h5, h6, h7⟩ := pl.Fs i (by omega) h1
    rw [h2]
    exact ri.pend j B (pl.before ri.closed i o ho hpre j h3) h6 h4 h7
theorem snapOf_same {S : Nat → Prop} (h : SnapOf ops st S sn) {i : Nat} (hk : (st (i + 1)).kd ≠ 2) : SnapOf ops st (fun j => j = i ∨ S j) sn := by
  rcases h with ⟨h1, h2⟩ | ⟨b, h1, h2, h3, h4, h5⟩
  · refine .inl ⟨h1, fun b hb hS => ?_⟩
    rcases hS with rfl | hS
    · exact hk
    · exact h2 b hb hS
  · refine .inr ⟨b, h1, .inr h2, h3, h4, fun b' hb hS hkb => ?_⟩
    rcases hS with rfl | hS
    · exact absurd hkb hk
    · exact h5 b' hb hS hkb
theorem snapOf_congr {S S' : Nat → Prop} (h : SnapOf ops st S sn) (hS : ∀ j, S j ↔ S' j) : SnapOf ops st S' sn := by
  have : S = S' := funext fun j => propext (hS j)
  rw [← this]; exact h
/-- One operation more. -/
theorem mOp_nodefer {e : Tb Value} {h h' : Hp} {nx nx' : Nat} {v : Value} {o : Oper} (hm : mOp P G call e h nx o = .ok v h' nx') (c : Call) : o.op ≠ .defer c := fun ho => by
  rw [mOp_eq] at hm
  unfold sOp at hm
  rw [ho] at hm
  cases hm
theorem RI.next {Q : Exit → Act → World → Prop} (hc : CallsOk P G call) (ri : RI G n D ops nx0 st σ0 h0 w0 listed a w σ hs sn) (pl : Pl P G n call ops nx0 ms st) {i : Nat} (hr : i ∈ Region.ready .any ops listed) :
    wpOpIn (rF rd) 2 P ops Q i (fun a' w' => ∃ σ' hs' sn', RI G n D ops nx0 st σ0 h0 w0 (listed.setIfInBounds i true) a' w' σ' hs' sn') a w := by
  obtain ⟨hun, o, ho, hall⟩ := mem_ready.1 hr
  have hpre : ∀ ed ∈ o.after, Region.binds .any ed = true → Ls listed ed.on := fun ed h1 h2 => hall ed h1 h2
  have hiN := (Array.getElem?_eq_some_iff.1 ho).1
  have hS : ¬ Ls listed i := fun h => by unfold Ls at h; rw [getD_both hun] at h; cases h
  have hil : i < listed.size := by rw [ri.size]; exact hiN
  have hset : ∀ j, Ls (listed.setIfInBounds i true) j ↔ j = i ∨ Ls listed j := fun j => Ls_set hil
  have er := ri.look pl ho hS hpre
  have hst := pl.step i o ho
  have hmr := ri.tr.mr
  have hmD : MR G σ (dH nx0 (ms i) (st i).F sn).get sn.nx w := hmr.sub (ri.lean pl ho hpre)
  have hcongr : ∀ hh nn, mOp P G call (st i).e hh nn o = mOp P G call (cutT (st i).e (o.looksAt ops)) hh nn o := fun hh nn => mOp_congr fun x hx => by
    cases x with
    | tmp t =>
      show (st i).e.get t = (cutT (st i).e (o.looksAt ops)).get t
      rw [cutT_get, if_pos]
      unfold Oper.looksAt
      rw [List.mem_append]
      exact .inl (List.mem_filterMap.2 ⟨.tmp t, hx, rfl⟩)
    | _ => rfl
  have hguard : ∀ g b, o.guard = some g → mGuard ops (st i).e g = some b → Region.wanted o (yielded ops a.tmps) = b := fun g b h1 h2 => by
    refine guard_ok er h1 ?_
    rw [← h2]
    refine (mGuard_congr fun d hd => ?_).symm
    rw [cutT_get, if_pos]
    unfold Oper.looksAt
    rw [List.mem_append]
    refine .inr ?_
    obtain ⟨gj, gb⟩ := g
    rw [h1]
    simp only at hd
    simp [hd]
  have keep : ∀ (σ' : Sg) (hs' : Hf) (w' : World) (u : Value), (st (i + 1)).kd ≠ 2 → (st (i + 1)).kd ≠ 1 → Tr G σ hs sn.nx w σ' hs' sn.nx w' → (∀ id B, hs id = some B → hs' id = some B) → VR σ' (st (i + 1)).v u → ∃ σ' hs' sn', RI G n D ops nx0 st σ0 h0 w0 (listed.setIfInBounds i true) (a.put o.dst u) w' σ' hs' sn' := by
    intro σ' hs' w' u hk2 hk1 ht hsub hv
    obtain ⟨s1, s2, s3, s4⟩ := ri.slots pl ho ht.ext hv
    refine ⟨σ', hs', sn, by simp [ri.size], ri.closed' ho hpre, ri.tr.trans ht, fun id B h => hsub id B (ri.sub id B h), fun j B hj hk hm hF => ?_, ri.nmat, fun j hj hnj => ?_, ri.nxle, snapOf_congr (snapOf_same ri.snap hk2) (fun j => (hset j).symm), s1, s2, s3, s4⟩
    · rcases (hset j).1 hj with h1 | h1
      · subst h1; exact absurd hk hk1
      · exact hsub _ _ (ri.pend j B h1 hk hm hF)
    · rw [ht.old (nx0 + j) (by have := ri.nxle; omega)]
      exact ri.res j hj fun h => hnj ((hset j).2 (.inr h))
  unfold wpOpIn
  simp only [ho]
  by_cases hk3 : (st (i + 1)).kd = 3
  · obtain ⟨hv3, g, hg, hgf⟩ := hst.off hk3
    have hw := hguard g false hg hgf
    rw [if_neg (by simp [hw])]
    exact ⟨fun f _ => rF_fn rd f, keep σ hs w undef (by omega) (by omega) (Tr.refl hmr) (fun _ _ h => h) (by rw [hv3]; exact VR.undef)⟩
  · have hw : Region.wanted o (yielded ops a.tmps) = true := by
      rcases hst.on hk3 with h1 | ⟨g, h1, h2⟩
      · simp [Region.wanted, h1]
      · exact hguard g true h1 h2
    rw [if_pos hw]
    have merge : ∀ (σ' : Sg) (h' : Hf) (nx' : Nat) (w' : World), Tr G σ (dH nx0 (ms i) (st i).F sn).get sn.nx w σ' h' nx' w' → Tr G σ hs sn.nx w σ' (fun id => if (h' id).isSome = true then h' id else if ((dH nx0 (ms i) (st i).F sn).get id).isSome = true then none else hs id) nx' w' := fun σ' h' nx' w' t => t.frame hmr (ri.lean pl ho hpre)
    rcases hst.kinds with hk | hk | hk | hk
    · obtain ⟨hdk, _⟩ := hst.still hk
      obtain ⟨h1, n1, hm⟩ := pl.check ri.closed ho hk hS hpre ri.snap
      obtain ⟨rfl, rfl⟩ := still_ok hdk hm
      rw [hcongr] at hm
      refine mOp_wp hc hm er hmD fun σ' u w' hv ht => ?_
      refine keep σ' _ w' u (by omega) (by omega) (merge _ _ _ _ ht) (fun id B hB => ?_) hv
      cases hq : ((dH nx0 (ms i) (st i).F sn).get id) with
      | none => simp [hB]
      | some B' =>
        have := ri.lean pl ho hpre id B' hq
        rw [hB] at this; injection this with this; subst this
        simp
    · obtain ⟨hdk, h', n', B, hm, hB, hF⟩ := hst.fresh hk
      rw [hcongr] at hm
      obtain ⟨L, u, w', hrun, hL, hrest, hsize, hold, hbr⟩ := fresh_ok hdk hm hB σ w a.eval (er.oe hmD)
      refine ⟨fun f _ => rF_fn rd f, ?_⟩
      rw [Oper.semAt_eq _ _ _ (mOp_nodefer hm), hrun, Oper.uponIn_value]
      have hres := ri.res i hiN hS
      have hle : σ.le (fun k => if k = nx0 + i then some L else σ k) := fun k L' hk => by
        by_cases e : k = nx0 + i
        · subst e; rw [hres] at hk; cases hk
        · simp only [if_neg e]; exact hk
      have ht := ri.tr.fresh hres (by omega) (by have := ri.nxle; omega) L B hL hrest hsize hold (fun σ' h1 h2 => (hbr σ' h1 h2).1)
      obtain ⟨s1, s2, s3, s4⟩ := ri.slots pl ho hle (hbr _ hle (by rw [if_pos rfl])).2
      have hnone : hs (nx0 + i) = none := by
        cases hq : hs (nx0 + i) with
        | none => rfl
        | some B' => obtain ⟨L', hL', _⟩ := hmr.blk _ _ hq; rw [hres] at hL'; cases hL'
      refine ⟨_, _, sn, by simp [ri.size], ri.closed' ho hpre, ht, fun id B' h => ?_, fun j B' hj hkj hmj hFj => ?_, ri.nmat, fun j hj hnj => ?_, ri.nxle, snapOf_congr (snapOf_same ri.snap (by omega)) (fun j => (hset j).symm), s1, s2, s3, s4⟩
      · have := ri.sub id B' h
        have hne : id ≠ nx0 + i := fun e => by subst e; rw [hnone] at this; cases this
        rw [if_neg hne]; exact this
      · by_cases e : j = i
        · subst e
          rw [hF] at hFj
          simp only [List.head?_cons, Option.some.injEq, Prod.mk.injEq, true_and] at hFj
          subst hFj
          rw [if_pos rfl]
        · rw [if_neg (by omega)]
          rcases (hset j).1 hj with h1 | h1
          · exact absurd h1 e
          · exact ri.pend j B' h1 hkj hmj hFj
      · have hji : j ≠ i := fun e => hnj ((hset j).2 (.inl e))
        rw [if_neg (by omega)]
        exact ri.res j hj fun h => hnj ((hset j).2 (.inr h))
    · obtain ⟨hm, hmt, hlo, hold, hld, _, _, _⟩ := hst.loud hk
      have hbef := pl.before ri.closed i o ho hpre
      have hmax : ∀ b, b < ops.size → Ls listed b → (st (b + 1)).kd = 2 → b < i := fun b hb hSb hkb => by
        rcases Nat.lt_trichotomy b i with h1 | h1 | h1
        · exact h1
        · subst h1; exact absurd hSb hS
        · exact absurd (pl.before ri.closed b _ (Array.getElem?_eq_getElem hb) (ri.closed b _ (Array.getElem?_eq_getElem hb) hSb) i (pl.chain hk hkb h1 hb)) hS
      have hsn : sn = (st i).cur := by
        rcases ri.snap with ⟨h1, h2⟩ | ⟨b, h1, h2, h3, h4, h5⟩
        · rw [h1]
          exact (pl.cur i (Nat.zero_le _) (by omega) fun e _ he hke => h2 e (by omega) (hbef e (pl.chain hke hk he hiN)) hke).symm
        · rw [h4]
          have hbi := hmax b h1 h2 h3
          exact (pl.cur i (by omega) (by omega) fun e he1 he hke => by
            have := h5 e (by omega) (hbef e (pl.chain hke hk he hiN)) hke
            omega).symm
      rw [← hsn, hcongr] at hm
      refine mOp_wp hc hm er hmD fun σ' u w' hv ht => ?_
      have hmg := merge _ _ _ _ ht
      obtain ⟨s1, s2, s3, s4⟩ := ri.slots pl ho ht.ext hv
      rw [← hsn] at hmt
      have hD : ∀ j, j < ops.size → tb (st (i + 1)).cur.mt j = false → (dH nx0 (ms i) (st i).F sn).get (nx0 + j) = none ∧ (st (i + 1)).cur.h.get (nx0 + j) = none ∧ tb sn.mt j = false := fun j hj hmj => by
        rw [hmt, tb_lor, Bool.or_eq_false_iff] at hmj
        have h1 : (dH nx0 (ms i) (st i).F sn).get (nx0 + j) = none := by
          cases hq : (dH nx0 (ms i) (st i).F sn).get (nx0 + j) with
          | none => rfl
          | some B =>
            rcases dH_get hq with h2 | ⟨j', _, h3, h4, _⟩
            · rw [ri.nmat j hj hmj.1] at h2; cases h2
            · have : j' = j := by omega
              subst this
              rw [hmj.2] at h4; cases h4
        exact ⟨h1, ht.dom _ (by have := ri.nxle; omega) h1, hmj.1⟩
      refine ⟨σ', _, (st (i + 1)).cur, by simp [ri.size], ri.closed' ho hpre, ri.tr.trans hmg, fun id B h => ?_, fun j B hj hkj hmj hFj => ?_, fun j hj hmj => (hD j hj hmj).2.1, fun j hj hnj => ?_, ?_, ?_, s1, s2, s3, s4⟩
      · have : ((st (i + 1)).cur.h.get id).isSome = true := by rw [h]; rfl
        rw [if_pos this]; exact h
      · have hji : j ≠ i := fun e => by subst e; omega
        rcases (hset j).1 hj with h1 | h1
        · exact absurd h1 hji
        · have hjN : j < ops.size := by
            rcases Nat.lt_or_ge j ops.size with h2 | h2
            · exact h2
            · unfold Ls at h1; rw [← ri.size] at h2; simp [Array.getElem?_eq_none h2] at h1
          obtain ⟨d1, d2, d3⟩ := hD j hjN hmj
          rw [d2, d1]
          simp only [Option.isSome_none, Bool.false_eq_true, if_false]
          exact ri.pend j B h1 hkj d3 hFj
      · rw [ht.old (nx0 + j) (by have := ri.nxle; omega)]
        exact ri.res j hj fun h => hnj ((hset j).2 (.inr h))
      · have := ri.nxle; have := ht.le; omega
      · refine .inr ⟨i, hiN, (hset i).2 (.inl rfl), hk, rfl, fun b hb hSb hkb => ?_⟩
        rcases (hset b).1 hSb with h1 | h1
        · omega
        · have := hmax b hb h1 hkb; omega
    · exact absurd hk hk3
/-- How many are left. -/
def left (listed : Array Bool) : Nat := listed.toList.countP (fun b => !b)
theorem left_set {i : Nat} (hi : i < listed.size) (hS : ¬ Ls listed i) : left (listed.setIfInBounds i true) + 1 = left listed := by
  have hf : listed.toList[i]? = some false := by
    unfold Ls at hS
    rw [Array.getElem?_toList, Array.getElem?_eq_getElem hi]
    congr 1
    cases hq : listed[i] with
    | false => rfl
    | true => exact absurd (by simp [hi, hq]) hS
  have key : ∀ (l : List Bool) (i : Nat), l[i]? = some false → (l.set i true).countP (fun b => !b) + 1 = l.countP (fun b => !b) := by
    intro l
    induction l with
    | nil => intro i h; simp at h
    | cons x l ih =>
      intro i h
      cases i with
      | zero =>
        simp only [List.getElem?_cons_zero, Option.some.injEq] at h
        subst h; simp
      | succ i =>
        rw [List.getElem?_cons_succ] at h
        rw [List.set_cons_succ, List.countP_cons, List.countP_cons, ← ih i h]
        omega
  unfold left
  rw [Array.toList_setIfInBounds]
  exact key _ i hf
theorem all_listed (hl : left listed = 0) {i : Nat} (hi : i < listed.size) : Ls listed i := by
  by_cases h : Ls listed i
  · exact h
  · have := left_set hi h; omega
/-- All are done. -/
theorem RI.final (ri : RI G n D ops nx0 st σ0 h0 w0 listed a w σ hs sn) (pl : Pl P G n call ops nx0 ms st) (hall : ∀ i, i < ops.size → Ls listed i) :
    Tr G σ0 h0 nx0 w0 σ (dHall nx0 (st ops.size).F (st ops.size).cur).get (st ops.size).cur.nx w ∧ ER σ n (st ops.size).e a ∧ a.defers = D := by
  have hsn : sn = (st ops.size).cur := by
    rcases ri.snap with ⟨h1, h2⟩ | ⟨b, h1, h2, h3, h4, h5⟩
    · rw [h1]
      exact (pl.cur ops.size (Nat.zero_le _) (Nat.le_refl _) fun e _ he => h2 e he (hall e he)).symm
    · rw [h4]
      exact (pl.cur ops.size (by omega) (Nat.le_refl _) fun e he1 he hke => by have := h5 e he (hall e he) hke; omega).symm
  rw [← hsn]
  refine ⟨ri.tr.trans (Tr.sub ri.tr.mr fun id B h => ?_), ⟨ri.tsize, fun t v hv => ?_⟩, ri.defers⟩
  · rcases dHall_get h with h1 | ⟨j, h1, h2, h3⟩
    · exact ri.sub id B h1
    · obtain ⟨h5, h6, h7⟩ := pl.Fs ops.size (Nat.le_refl _) h1
      rw [h2]
      exact ri.pend j B (hall j h5) h6 h3 h7
  · rcases pl.env t ops.size (Nat.le_refl _) with ⟨j, oj, h1, h2, h3, h4⟩ | ⟨h1, h2⟩
    · rw [h4] at hv; injection hv with hv; subst hv
      exact ri.done j oj t h2 (hall j h1) h3
    · rw [h2] at hv
      exact ri.rest t v (fun j oj hoj _ => h1 j oj (Array.getElem?_eq_some_iff.1 hoj).1 hoj) hv
theorem ready_nil (pl : Pl P G n call ops nx0 ms st) (hsz : listed.size = ops.size) (hr : Region.ready .any ops listed = []) : ∀ i, i < ops.size → Ls listed i := by
  intro i
  induction i using Nat.strongRecOn with
  | _ i ih =>
    intro hi
    by_cases h : Ls listed i
    · exact h
    · exfalso
      have ho := Array.getElem?_eq_getElem hi
      have : i ∈ Region.ready .any ops listed := mem_ready.2 ⟨getD_in (by omega) (by unfold Ls at h; simpa using h), _, ho, fun ed h1 h2 => by
        have hlt := pl.back i _ ho ed h1 h2
        exact ih ed.on hlt (by omega)⟩
      rw [hr] at this; cases this
theorem RI.sim {Q : Exit → Act → World → Prop} (hc : CallsOk P G call) (pl : Pl P G n call ops nx0 ms st) (hQ : ∀ σ' w' a', Tr G σ0 h0 nx0 w0 σ' (dHall nx0 (st ops.size).F (st ops.size).cur).get (st ops.size).cur.nx w' → ER σ' n (st ops.size).e a' → a'.defers = D → Q .normal a' w') :
    ∀ (f : Nat) {listed : Array Bool} {a : Act} {w : World} {σ : Sg} {hs : Hf} {sn : Snap}, RI G n D ops nx0 st σ0 h0 w0 listed a w σ hs sn → left listed = f → wpAnyIn (rF rd) 2 P .any ops Q f listed a w
  | 0, listed, a, w, σ, hs, sn, ri, hl => by
    have hall : ∀ i, i < ops.size → Ls listed i := fun i hi => all_listed hl (by rw [ri.size]; exact hi)
    obtain ⟨h1, h2, h3⟩ := ri.final pl hall
    refine ⟨?_, hQ σ w a h1 h2 h3⟩
    cases hr : Region.ready .any ops listed with
    | nil => rfl
    | cons i r =>
      obtain ⟨hun, o, ho, _⟩ := mem_ready.1 (show i ∈ Region.ready .any ops listed by rw [hr]; simp)
      have := hall i (Array.getElem?_eq_some_iff.1 ho).1
      unfold Ls at this; rw [getD_both hun] at this; cases this
  | f + 1, listed, a, w, σ, hs, sn, ri, hl => by
    refine ⟨fun hr => ?_, fun i hi => ?_⟩
    · obtain ⟨h1, h2, h3⟩ := ri.final pl (ready_nil pl ri.size hr)
      exact hQ σ w a h1 h2 h3
    · refine wpOpIn_mono (fun a' w' h => ?_) (ri.next hc pl hi)
      obtain ⟨σ', hs', sn', ri'⟩ := h
      obtain ⟨hun, o, ho, _⟩ := mem_ready.1 hi
      have hS : ¬ Ls listed i := fun h => by unfold Ls at h; rw [getD_both hun] at h; cases h
      have := left_set (listed := listed) (i := i) (by rw [ri.size]; exact (Array.getElem?_eq_some_iff.1 ho).1) hS
      exact RI.sim hc pl hQ f ri' (by omega)
end
/-- A region that draws its order. -/
theorem draw_ok {P : Program} {G : Nat} (hm : P.follows .mixedOrders = true) (call : CallF) (n : Nat) (hc : CallsOk P G call) : RegOk P G n (mDraw P G n call) := by
  intro rd id ops e h nx σ a w Q b0 er m mk hb0 hp
  have hp' : Post G n b0 σ h nx w Q (bo (dStat ops (ops.toList.zip (masks ops.toList [])) 0 []) (oo (dGo P G n call ops nx (ops.toList.zip (masks ops.toList [])) 0 ⟨e, [], ⟨h, nx + ops.toList.length, 0, none⟩, [], [], [], undef, 3⟩) .bad (fun s => .nrm s.e (dHall nx s.F s.cur) s.cur.nx)) .bad) := hp
  cases h1 : dStat ops (ops.toList.zip (masks ops.toList [])) 0 [] with
  | false => rw [h1] at hp'; exact hp'.elim
  | true =>
    rw [h1, bo_true] at hp'
    cases h2 : dGo P G n call ops nx (ops.toList.zip (masks ops.toList [])) 0 ⟨e, [], ⟨h, nx + ops.toList.length, 0, none⟩, [], [], [], undef, 3⟩ with
    | none => rw [h2] at hp'; exact hp'.elim
    | some sN =>
      rw [h2, oo_some] at hp'
      obtain ⟨ms, st, pl, hs0, hsN⟩ := pl_of h1 h2
      refine wpIn_region_any hm ?_
      have m' : MR G σ h.get nx w.drew := m.drew
      have hlist : ∀ i, ¬ Ls (Array.replicate ops.size false) i := fun i hi => by unfold Ls at hi; rw [getD_replicate_false] at hi; cases hi
      have ri : RI G n a.defers ops nx st σ h.get w.drew (Array.replicate ops.size false) a w.drew σ h.get (st 0).cur := by
        rw [hs0]
        have tr : Tr G σ h.get nx w.drew σ h.get (nx + ops.toList.length) w.drew :=
          { Tr.refl m' with
            le := by omega
            mr := ⟨m'.blk, m'.sep, fun i hi => m'.free i (by omega), m'.glob, by have := m'.gle; omega⟩ }
        refine ⟨by simp, fun j o _ hj => absurd hj (hlist j), tr, fun _ _ h => h, fun j B hj => absurd hj (hlist j), fun j hj _ => ?_, fun j hj _ => m'.free _ (by omega), by simp, .inl ⟨by rw [hs0], fun b _ hb => absurd hb (hlist b)⟩, er.size, rfl, fun j o t _ hj => absurd hj (hlist j), fun t v _ hv => ?_⟩
        · cases hq : h.get (nx + j) with
          | none => rfl
          | some B => obtain ⟨L, hL, _⟩ := m'.blk _ _ hq; rw [m'.free _ (by omega)] at hL; cases hL
        · rw [hs0] at hv; exact er.get t v hv
      refine RI.sim hc pl (fun σ' w' a' ht er' hdf => ?_) ops.size ri ?_
      · rw [hsN] at ht er'
        exact hp' σ' w' a' ht.drew er' (by rw [hdf]; exact mk.tr ht.drew)
      · unfold left; simp [List.countP_replicate]
/-- All calls of the machine stand for the model's. -/
noncomputable def mRun (P : Program) (G fuel : Nat) (base : CallF) (d : Nat) : CallF := mCalls P G fuel (fun call n => mDraw P G n call) base d
theorem run_ok {P : Program} {G fuel d : Nat} {base : CallF} (hm : P.follows .mixedOrders = true) (hb : CallOk P G base) : CallsOk P G (mRun P G fuel base d) := calls_ok hb (fun call n hc => draw_ok hm call n hc) d
theorem none_ok {P : Program} {G : Nat} : CallOk P G (fun _ _ _ _ => .bad) := fun f args h nx v h' nx' hm => by cases hm
end Go.Proofs.YtklciidffdnglaaDoor
