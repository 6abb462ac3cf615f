/- Lemmas that the last text rests on. Condition: each says its own. -/
import Derived.Test.YtadgfojhjnkliaaGreatDoorZb4
import Derived.Lib.LaidTab
import Derived.ChangeSame
import Derived.Test.YtadgfojhjnkliaaGreatDoorProg
import Derived.Stop.LaidErr
import Derived.MakeChecks
import GoSem.PinnedTables
import Derived.Lib.ValidLaws
import Derived.Laws.BytesArg
set_option maxHeartbeats 16000000
set_option maxRecDepth 100000
namespace Go.Proofs.YtadgfojhjnkliaaGreatDoor
open Go.RowKit
noncomputable section
section
def YX (e : Tb Value) (l : List Nat) : Tb Value := @List.rec Nat (fun _ => Tb Value) .lf (fun t _ ih => oo (e.get t) (ih.del t) (fun v => ih.put t v)) l
theorem N0 (e : Tb Value) (t : Nat) : ∀ l : List Nat, (YX e l).get t = if t ∈ l then e.get t else none
 | [] => by simp [YX, Tb.get_lf]
 | x :: l => by
  show (oo (e.get x) ((YX e l).del x) (fun v => (YX e l).put x v)).get t = _
  have ih := N0 e t l
  cases hx : e.get x with
  | none =>
   rw [U5, Tb.get_del]
   by_cases h : t = x
   ·subst h; simp [hx]
   ·rw [if_neg h, ih]; simp [h]
  | some v =>
   rw [HU, Tb.get_put]
   by_cases h : t = x
   ·subst h; simp [hx]
   ·rw [if_neg h, ih]; simp [h]
section
variable {P : Program} {G n : Nat} {rd : Option Nat} {D : List Deferred} {call : CallF} {ops : Array Oper} {nx0 : Nat} {ms : Nat → Nat} {st : Nat → DSt} {σ0 : Sg} {h0 : Hf} {w0 : World}
structure RI (G n : Nat) (D : List Deferred) (ops : Array Oper) (nx0 : Nat) (st : Nat → DSt) (σ0 : Sg) (h0 : Hf) (w0 : World) (listed : Array Bool) (a : Act) (w : World) (σ : Sg) (hs : Hf) (sn : Snap) : Prop where
 size : listed.size = ops.size
 closed : V3 ops (Ls listed)
 tr : Tr G σ0 h0 nx0 w0 σ hs sn.nx w
 sub : ∀ id B, sn.h.get id = some B → hs id = some B
 pend : ∀ j B, Ls listed j → (st (j + 1)).kd = 1 → tb sn.mt j = false → (st (j + 1)).F.head? = some (j, B) → hs (nx0 + j) = some B
 nmat : ∀ j, j < ops.size → tb sn.mt j = false → sn.h.get (nx0 + j) = none
 res : ∀ j, j < ops.size → ¬ Ls listed j → σ (nx0 + j) = none
 nxle : nx0 + ops.size ≤ sn.nx
 snap : O9 ops st (Ls listed) sn
 tsize : a.tmps.size = n
 defers : a.defers = D
 done : ∀ j o t, ops[j]? = some o → Ls listed j → o.dst = some t → ∃ u, a.tmps[t]? = some u ∧ VR σ (st (j + 1)).v u
 rest : ∀ t v, (∀ j o, ops[j]? = some o → Ls listed j → o.dst ≠ some t) → (st 0).e.get t = some v → ∃ u, a.tmps[t]? = some u ∧ VR σ v u
theorem LV {listed : Array Bool} {i j : Nat} (hi : i < listed.size) : Ls (listed.setIfInBounds i true) j ↔ j = i ∨ Ls listed j := by
 unfold Ls
 by_cases h : i = j
 ·subst h
  simp [hi]
 ·rw [getD_set_ne false h]
  constructor
  ·exact .inr
  ·rintro (h' | h')
   ·exact absurd h'.symm h
   ·exact h'
variable {listed : Array Bool} {a : Act} {w : World} {σ : Sg} {hs : Hf} {sn : Snap}
theorem RI.look (ri : RI G n D ops nx0 st σ0 h0 w0 listed a w σ hs sn) (pl : Pl P G n call ops nx0 ms st) {i : Nat} {o : Oper} (ho : ops[i]? = some o) (hS : ¬ Ls listed i) (hpre : ∀ ed ∈ o.after, Region.binds .any ed = true → Ls listed ed.on) : ER σ n (YX (st i).e (o.looksAt ops)) a := by
 have hiN := (Array.getElem?_eq_some_iff.1 ho).1
 have hbef := pl.before ri.closed i o ho hpre
 refine ⟨ri.tsize, fun t v hv => ?_⟩
 rw [N0] at hv
 split at hv
 ·rename_i hmem
  rcases pl.env t i (by omega) with ⟨j, oj, h1, h2, h3, h4⟩ | ⟨h1, h2⟩
  ·rw [h4] at hv; injection hv with hv; subst hv
   by_cases hj : Ls listed j
   ·exact ri.done j oj t h2 hj h3
   ·obtain ⟨_, h5⟩ := pl.pair j i oj o h1 h2 ho
    rcases h5 with h5 | ⟨h5, _⟩
    ·exact absurd (hbef j h5) hj
    ·exact absurd hmem (h5 t h3)
  ·rw [h2] at hv
   refine ri.rest t v (fun j oj hoj hj hd => ?_) hv
   by_cases hji : j < i
   ·exact h1 j oj hji hoj hd
   ·have hne : j ≠ i := fun e => by subst e; exact hS hj
    obtain ⟨_, h5⟩ := pl.pair i j o oj (by omega) ho hoj
    rcases h5 with h5 | ⟨_, h5⟩
    ·exact hS (pl.before ri.closed j oj hoj (ri.closed j oj hoj hj) i h5)
    ·exact h5 t hd hmem
 ·cases hv
theorem RI.slots (ri : RI G n D ops nx0 st σ0 h0 w0 listed a w σ hs sn) (pl : Pl P G n call ops nx0 ms st) {i : Nat} {o : Oper} (ho : ops[i]? = some o) {σ' : Sg} (hle : σ.le σ') {u : Value} (hv : VR σ' (st (i + 1)).v u) :
 (a.put o.dst u).tmps.size = n ∧ (a.put o.dst u).defers = D ∧ (∀ j oj t, ops[j]? = some oj → Ls (listed.setIfInBounds i true) j → oj.dst = some t → ∃ x, (a.put o.dst u).tmps[t]? = some x ∧ VR σ' (st (j + 1)).v x) ∧
  ∀ t v, (∀ j oj, ops[j]? = some oj → Ls (listed.setIfInBounds i true) j → oj.dst ≠ some t) → (st 0).e.get t = some v → ∃ x, (a.put o.dst u).tmps[t]? = some x ∧ VR σ' v x := by
 have hiN := (Array.getElem?_eq_some_iff.1 ho).1
 have hil : i < listed.size := by rw [ri.size]; exact hiN
 have hput := (pl.step i o ho).put
 have hne : ∀ t, o.dst ≠ some t → (a.put o.dst u).tmps[t]? = a.tmps[t]? := fun t ht => by
  cases hd : o.dst with
  | none => rfl
  | some d =>
   have : d ≠ t := fun e => ht (by rw [hd, e])
   simp only [Act.put]
   rw [Array.getElem?_setIfInBounds_ne this]
 have hself : ∀ t, o.dst = some t → (a.put o.dst u).tmps[t]? = some u := fun t ht => by
  rw [ht] at hput ⊢
  rw [NM] at hput
  obtain ⟨h1, _⟩ := BE hput (by simp)
  have := AZ h1
  simp only [Act.put]
  rw [Array.getElem?_setIfInBounds_self_of_lt (by rw [ri.tsize]; exact this)]
 refine ⟨by cases hd : o.dst <;> simp [Act.put, ri.tsize], by rw [LN]; exact ri.defers, fun j oj t hoj hj hd => ?_, fun t v hno hv0 => ?_⟩
 ·by_cases e : j = i
  ·subst e
   rw [ho] at hoj; injection hoj with hoj; subst hoj
   exact ⟨u, hself t hd, hv⟩
  ·rcases (LV hil).1 hj with h1 | h1
   ·exact absurd h1 e
   ·obtain ⟨x, hx, hr⟩ := ri.done j oj t hoj h1 hd
    have hdne : o.dst ≠ some t := fun h2 => by
     rcases Nat.lt_or_gt_of_ne e with h3 | h3
     ·exact (pl.pair j i oj o h3 hoj ho).1 t hd h2
     ·exact (pl.pair i j o oj h3 ho hoj).1 t h2 hd
    exact ⟨x, by rw [hne t hdne]; exact hx, hr.mono hle⟩
 ·have hdne : o.dst ≠ some t := hno i o ho ((LV hil).2 (.inl rfl))
  obtain ⟨x, hx, hr⟩ := ri.rest t v (fun j oj hoj hj => hno j oj hoj ((LV hil).2 (.inr hj))) hv0
  exact ⟨x, by rw [hne t hdne]; exact hx, hr.mono hle⟩
theorem RI.closed' (ri : RI G n D ops nx0 st σ0 h0 w0 listed a w σ hs sn) {i : Nat} {o : Oper} (ho : ops[i]? = some o) (hpre : ∀ ed ∈ o.after, Region.binds .any ed = true → Ls listed ed.on) : V3 ops (Ls (listed.setIfInBounds i true)) := by
 have hil : i < listed.size := by rw [ri.size]; exact (Array.getElem?_eq_some_iff.1 ho).1
 intro j oj hoj hj ed hed hb
 rcases (LV hil).1 hj with h1 | h1
 ·subst h1
  rw [ho] at hoj; injection hoj with hoj; subst hoj
  exact (LV hil).2 (.inr (hpre ed hed hb))
 ·exact (LV hil).2 (.inr (ri.closed j oj hoj h1 ed hed hb))
theorem RI.lean (ri : RI G n D ops nx0 st σ0 h0 w0 listed a w σ hs sn) (pl : Pl P G n call ops nx0 ms st) {i : Nat} {o : Oper} (ho : ops[i]? = some o) (hpre : ∀ ed ∈ o.after, Region.binds .any ed = true → Ls listed ed.on) : ∀ id B, (dH nx0 (ms i) (st i).F sn).get id = some B → hs id = some B := fun id B h => by
 have hiN := (Array.getElem?_eq_some_iff.1 ho).1
 rcases YV h with h1 | ⟨j, h1, h2, h3, h4⟩
 ·exact ri.sub id B h1
 ·obtain ⟨h5, h6, h7⟩ := pl.Fs i (by omega) h1
  rw [h2]
  exact ri.pend j B (pl.before ri.closed i o ho hpre j h3) h6 h4 h7
theorem OG {S : Nat → Prop} (h : O9 ops st S sn) {i : Nat} (hk : (st (i + 1)).kd ≠ 2) : O9 ops st (fun j => j = i ∨ S j) sn := by
 rcases h with ⟨h1, h2⟩ | ⟨b, h1, h2, h3, h4, h5⟩
 ·refine .inl ⟨h1, fun b hb hS => ?_⟩
  rcases hS with rfl | hS
  ·exact hk
  ·exact h2 b hb hS
 ·refine .inr ⟨b, h1, .inr h2, h3, h4, fun b' hb hS hkb => ?_⟩
  rcases hS with rfl | hS
  ·exact absurd hkb hk
  ·exact h5 b' hb hS hkb
theorem MD {S S' : Nat → Prop} (h : O9 ops st S sn) (hS : ∀ j, S j ↔ S' j) : O9 ops st S' sn := by
 have : S = S' := funext fun j => propext (hS j)
 rw [← this]; exact h
theorem W4 {e : Tb Value} {h h' : Hp} {nx nx' : Nat} {v : Value} {o : Oper} (hm : mOp P G call e h nx o = .ok v h' nx') (c : Call) : o.op ≠ .defer c := fun ho => by
 rw [NN] at hm
 unfold sOp at hm
 rw [ho] at hm
 cases hm
theorem RI.next {Q : Exit → Act → World → Prop} (hc : CallsOk P G call) (ri : RI G n D ops nx0 st σ0 h0 w0 listed a w σ hs sn) (pl : Pl P G n call ops nx0 ms st) {i : Nat} (hr : i ∈ Region.ready .any ops listed) :
 wpOpIn (rF rd) 2 P ops Q i (fun a' w' => ∃ σ' hs' sn', RI G n D ops nx0 st σ0 h0 w0 (listed.setIfInBounds i true) a' w' σ' hs' sn') a w := by
 obtain ⟨hun, o, ho, hall⟩ := mem_ready.1 hr
 have hpre : ∀ ed ∈ o.after, Region.binds .any ed = true → Ls listed ed.on := fun ed h1 h2 => hall ed h1 h2
 have hiN := (Array.getElem?_eq_some_iff.1 ho).1
 have hS : ¬ Ls listed i := fun h => by unfold Ls at h; rw [getD_both hun] at h; cases h
 have hil : i < listed.size := by rw [ri.size]; exact hiN
 have hset : ∀ j, Ls (listed.setIfInBounds i true) j ↔ j = i ∨ Ls listed j := fun j => LV hil
 have er := ri.look pl ho hS hpre
 have hst := pl.step i o ho
 have hmr := ri.tr.mr
 have hmD : MR G σ (dH nx0 (ms i) (st i).F sn).get sn.nx w := hmr.sub (ri.lean pl ho hpre)
 have hcongr : ∀ hh nn, mOp P G call (st i).e hh nn o = mOp P G call (YX (st i).e (o.looksAt ops)) hh nn o := fun hh nn => dL fun x hx => by
  cases x with
  | tmp t =>
   show (st i).e.get t = (YX (st i).e (o.looksAt ops)).get t
   rw [N0, if_pos]
   unfold Oper.looksAt
   rw [List.mem_append]
   exact .inl (List.mem_filterMap.2 ⟨.tmp t, hx, rfl⟩)
  | _ => rfl
 have hguard : ∀ g b, o.guard = some g → GL ops (st i).e g = some b → Region.wanted o (yielded ops a.tmps) = b := fun g b h1 h2 => by
  refine WE er h1 ?_
  rw [← h2]
  refine (UE fun d hd => ?_).symm
  rw [N0, if_pos]
  unfold Oper.looksAt
  rw [List.mem_append]
  refine .inr ?_
  obtain ⟨gj, gb⟩ := g
  rw [h1]
  simp only at hd
  simp [hd]
 have keep : ∀ (σ' : Sg) (hs' : Hf) (w' : World) (u : Value), (st (i + 1)).kd ≠ 2 → (st (i + 1)).kd ≠ 1 → Tr G σ hs sn.nx w σ' hs' sn.nx w' → (∀ id B, hs id = some B → hs' id = some B) → VR σ' (st (i + 1)).v u → ∃ σ' hs' sn', RI G n D ops nx0 st σ0 h0 w0 (listed.setIfInBounds i true) (a.put o.dst u) w' σ' hs' sn' := by
  intro σ' hs' w' u hk2 hk1 ht hsub hv
  obtain ⟨s1, s2, s3, s4⟩ := ri.slots pl ho ht.ext hv
  refine ⟨σ', hs', sn, by simp [ri.size], ri.closed' ho hpre, ri.tr.trans ht, fun id B h => hsub id B (ri.sub id B h), fun j B hj hk hm hF => ?_, ri.nmat, fun j hj hnj => ?_, ri.nxle, MD (OG ri.snap hk2) (fun j => (hset j).symm), s1, s2, s3, s4⟩
  ·rcases (hset j).1 hj with h1 | h1
   ·subst h1; exact absurd hk hk1
   ·exact hsub _ _ (ri.pend j B h1 hk hm hF)
  ·rw [ht.old (nx0 + j) (by have := ri.nxle; omega)]
   exact ri.res j hj fun h => hnj ((hset j).2 (.inr h))
 unfold wpOpIn
 simp only [ho]
 by_cases hk3 : (st (i + 1)).kd = 3
 ·obtain ⟨hv3, g, hg, hgf⟩ := hst.off hk3
  have hw := hguard g false hg hgf
  rw [if_neg (by simp [hw])]
  exact ⟨fun f _ => QC rd f, keep σ hs w undef (by omega) (by omega) (Tr.refl hmr) (fun _ _ h => h) (by rw [hv3]; exact VR.undef)⟩
 ·have hw : Region.wanted o (yielded ops a.tmps) = true := by
   rcases hst.on hk3 with h1 | ⟨g, h1, h2⟩
   ·simp [Region.wanted, h1]
   ·exact hguard g true h1 h2
  rw [if_pos hw]
  have merge : ∀ (σ' : Sg) (h' : Hf) (nx' : Nat) (w' : World), Tr G σ (dH nx0 (ms i) (st i).F sn).get sn.nx w σ' h' nx' w' → Tr G σ hs sn.nx w σ' (fun id => if (h' id).isSome = true then h' id else if ((dH nx0 (ms i) (st i).F sn).get id).isSome = true then none else hs id) nx' w' := fun σ' h' nx' w' t => t.frame hmr (ri.lean pl ho hpre)
  rcases hst.kinds with hk | hk | hk | hk
  ·obtain ⟨hdk, _⟩ := hst.still hk
   obtain ⟨h1, n1, hm⟩ := pl.check ri.closed ho hk hS hpre ri.snap
   obtain ⟨rfl, rfl⟩ := gG hdk hm
   rw [hcongr] at hm
   refine YD hc hm er hmD fun σ' u w' hv ht => keep σ' _ w' u (by omega) (by omega) (merge _ _ _ _ ht) (fun id B hB => ?_) hv
   cases hq : ((dH nx0 (ms i) (st i).F sn).get id) with
   | none => simp [hB]
   | some B' =>
    have := ri.lean pl ho hpre id B' hq
    rw [hB] at this; injection this with this; subst this
    simp
  ·obtain ⟨hdk, h', n', B, hm, hB, hF⟩ := hst.fresh hk
   rw [hcongr] at hm
   obtain ⟨L, u, w', hrun, hL, hrest, hsize, hold, hbr⟩ := jN hdk hm hB σ w a.eval (er.oe hmD)
   refine ⟨fun f _ => QC rd f, ?_⟩
   rw [Oper.semAt_eq _ _ _ (W4 hm), hrun, Oper.uponIn_value]
   have hres := ri.res i hiN hS
   have hle : σ.le (fun k => if k = nx0 + i then some L else σ k) := fun k L' hk => by
    by_cases e : k = nx0 + i
    ·subst e; rw [hres] at hk; cases hk
    ·simp only [if_neg e]; exact hk
   have ht := ri.tr.fresh hres (by omega) (by have := ri.nxle; omega) L B hL hrest hsize hold (fun σ' h1 h2 => (hbr σ' h1 h2).1)
   obtain ⟨s1, s2, s3, s4⟩ := ri.slots pl ho hle (hbr _ hle (by rw [if_pos rfl])).2
   have hnone : hs (nx0 + i) = none := by
    cases hq : hs (nx0 + i) with
    | none => rfl
    | some B' => obtain ⟨L', hL', _⟩ := hmr.blk _ _ hq; rw [hres] at hL'; cases hL'
   refine ⟨_, _, sn, by simp [ri.size], ri.closed' ho hpre, ht, fun id B' h => ?_, fun j B' hj hkj hmj hFj => ?_, ri.nmat, fun j hj hnj => ?_, ri.nxle, MD (OG ri.snap (by omega)) (fun j => (hset j).symm), s1, s2, s3, s4⟩
   ·have := ri.sub id B' h
    have hne : id ≠ nx0 + i := fun e => by subst e; rw [hnone] at this; cases this
    rw [if_neg hne]; exact this
   ·by_cases e : j = i
    ·subst e
     rw [hF] at hFj
     simp only [List.head?_cons, Option.some.injEq, Prod.mk.injEq, true_and] at hFj
     subst hFj
     rw [if_pos rfl]
    ·rw [if_neg (by omega)]
     rcases (hset j).1 hj with h1 | h1
     ·exact absurd h1 e
     ·exact ri.pend j B' h1 hkj hmj hFj
   ·have hji : j ≠ i := fun e => hnj ((hset j).2 (.inl e))
    rw [if_neg (by omega)]
    exact ri.res j hj fun h => hnj ((hset j).2 (.inr h))
  ·obtain ⟨hm, hmt, hlo, hold, hld, _, _, _⟩ := hst.loud hk
   have hbef := pl.before ri.closed i o ho hpre
   have hmax : ∀ b, b < ops.size → Ls listed b → (st (b + 1)).kd = 2 → b < i := fun b hb hSb hkb => by
    rcases Nat.lt_trichotomy b i with h1 | h1 | h1
    ·exact h1
    ·subst h1; exact absurd hSb hS
    ·exact absurd (pl.before ri.closed b _ (Array.getElem?_eq_getElem hb) (ri.closed b _ (Array.getElem?_eq_getElem hb) hSb) i (pl.chain hk hkb h1 hb)) hS
   have hsn : sn = (st i).cur := by
    rcases ri.snap with ⟨h1, h2⟩ | ⟨b, h1, h2, h3, h4, h5⟩
    ·rw [h1]
     exact (pl.cur i (Nat.zero_le _) (by omega) fun e _ he hke => h2 e (by omega) (hbef e (pl.chain hke hk he hiN)) hke).symm
    ·rw [h4]
     have hbi := hmax b h1 h2 h3
     exact (pl.cur i (by omega) (by omega) fun e he1 he hke => by
      have := h5 e (by omega) (hbef e (pl.chain hke hk he hiN)) hke
      omega).symm
   rw [← hsn, hcongr] at hm
   refine YD hc hm er hmD fun σ' u w' hv ht => ?_
   have hmg := merge _ _ _ _ ht
   obtain ⟨s1, s2, s3, s4⟩ := ri.slots pl ho ht.ext hv
   rw [← hsn] at hmt
   have hD : ∀ j, j < ops.size → tb (st (i + 1)).cur.mt j = false → (dH nx0 (ms i) (st i).F sn).get (nx0 + j) = none ∧ (st (i + 1)).cur.h.get (nx0 + j) = none ∧ tb sn.mt j = false := fun j hj hmj => by
    rw [hmt, TW, Bool.or_eq_false_iff] at hmj
    have h1 : (dH nx0 (ms i) (st i).F sn).get (nx0 + j) = none := by
     cases hq : (dH nx0 (ms i) (st i).F sn).get (nx0 + j) with
     | none => rfl
     | some B =>
      rcases YV hq with h2 | ⟨j', _, h3, h4, _⟩
      ·rw [ri.nmat j hj hmj.1] at h2; cases h2
      ·have : j' = j := by omega
       subst this
       rw [hmj.2] at h4; cases h4
    exact ⟨h1, ht.dom _ (by have := ri.nxle; omega) h1, hmj.1⟩
   refine ⟨σ', _, (st (i + 1)).cur, by simp [ri.size], ri.closed' ho hpre, ri.tr.trans hmg, fun id B h => ?_, fun j B hj hkj hmj hFj => ?_, fun j hj hmj => (hD j hj hmj).2.1, fun j hj hnj => ?_, ?_, ?_, s1, s2, s3, s4⟩
   ·have : ((st (i + 1)).cur.h.get id).isSome = true := by rw [h]; rfl
    rw [if_pos this]; exact h
   ·have hji : j ≠ i := fun e => by subst e; omega
    rcases (hset j).1 hj with h1 | h1
    ·exact absurd h1 hji
    ·have hjN : j < ops.size := by
      rcases Nat.lt_or_ge j ops.size with h2 | h2
      ·exact h2
      ·unfold Ls at h1; rw [← ri.size] at h2; simp [Array.getElem?_eq_none h2] at h1
     obtain ⟨d1, d2, d3⟩ := hD j hjN hmj
     rw [d2, d1]
     simp only [Option.isSome_none, Bool.false_eq_true, if_false]
     exact ri.pend j B h1 hkj d3 hFj
   ·rw [ht.old (nx0 + j) (by have := ri.nxle; omega)]
    exact ri.res j hj fun h => hnj ((hset j).2 (.inr h))
   ·have := ri.nxle; have := ht.le; omega
   ·refine .inr ⟨i, hiN, (hset i).2 (.inl rfl), hk, rfl, fun b hb hSb hkb => ?_⟩
    rcases (hset b).1 hSb with h1 | h1
    ·omega
    ·have := hmax b hb h1 hkb; omega
  ·exact absurd hk hk3
def left (listed : Array Bool) : Nat := listed.toList.countP (fun b => !b)
theorem WA {i : Nat} (hi : i < listed.size) (hS : ¬ Ls listed i) : left (listed.setIfInBounds i true) + 1 = left listed := by
 have hf : listed.toList[i]? = some false := by
  unfold Ls at hS
  rw [Array.getElem?_toList, Array.getElem?_eq_getElem hi]
  congr 1
  cases hq : listed[i] with
  | false => rfl
  | true => exact absurd (by simp [hi, hq]) hS
 have key : ∀ (l : List Bool) (i : Nat), l[i]? = some false → (l.set i true).countP (fun b => !b) + 1 = l.countP (fun b => !b) := by
  intro l
  induction l with
  | nil => intro i h; simp at h
  | cons x l ih =>
   intro i h
   cases i with
   | zero =>
    simp only [List.getElem?_cons_zero, Option.some.injEq] at h
    subst h; simp
   | succ i =>
    rw [List.getElem?_cons_succ] at h
    rw [List.set_cons_succ, List.countP_cons, List.countP_cons, ← ih i h]
    omega
 unfold left
 rw [Array.toList_setIfInBounds]
 exact key _ i hf
theorem Z9 (hl : left listed = 0) {i : Nat} (hi : i < listed.size) : Ls listed i := by
 by_cases h : Ls listed i
 ·exact h
 ·have := WA hi h; omega
theorem RI.final (ri : RI G n D ops nx0 st σ0 h0 w0 listed a w σ hs sn) (pl : Pl P G n call ops nx0 ms st) (hall : ∀ i, i < ops.size → Ls listed i) :
 Tr G σ0 h0 nx0 w0 σ (OV nx0 (st ops.size).F (st ops.size).cur).get (st ops.size).cur.nx w ∧ ER σ n (st ops.size).e a ∧ a.defers = D := by
 have hsn : sn = (st ops.size).cur := by
  rcases ri.snap with ⟨h1, h2⟩ | ⟨b, h1, h2, h3, h4, h5⟩
  ·rw [h1]
   exact (pl.cur ops.size (Nat.zero_le _) (Nat.le_refl _) fun e _ he => h2 e he (hall e he)).symm
  ·rw [h4]
   exact (pl.cur ops.size (by omega) (Nat.le_refl _) fun e he1 he hke => by have := h5 e he (hall e he) hke; omega).symm
 rw [← hsn]
 refine ⟨ri.tr.trans (Tr.sub ri.tr.mr fun id B h => ?_), ⟨ri.tsize, fun t v hv => ?_⟩, ri.defers⟩
 ·rcases TH h with h1 | ⟨j, h1, h2, h3⟩
  ·exact ri.sub id B h1
  ·obtain ⟨h5, h6, h7⟩ := pl.Fs ops.size (Nat.le_refl _) h1
   rw [h2]
   exact ri.pend j B (hall j h5) h6 h3 h7
 ·rcases pl.env t ops.size (Nat.le_refl _) with ⟨j, oj, h1, h2, h3, h4⟩ | ⟨h1, h2⟩
  ·rw [h4] at hv; injection hv with hv; subst hv
   exact ri.done j oj t h2 (hall j h1) h3
  ·rw [h2] at hv
   exact ri.rest t v (fun j oj hoj _ => h1 j oj (Array.getElem?_eq_some_iff.1 hoj).1 hoj) hv
theorem cX (pl : Pl P G n call ops nx0 ms st) (hsz : listed.size = ops.size) (hr : Region.ready .any ops listed = []) : ∀ i, i < ops.size → Ls listed i := by
 intro i
 induction i using Nat.strongRecOn with
 | _ i ih =>
  intro hi
  by_cases h : Ls listed i
  ·exact h
  ·exfalso
   have ho := Array.getElem?_eq_getElem hi
   have : i ∈ Region.ready .any ops listed := mem_ready.2 ⟨getD_in (by omega) (by unfold Ls at h; simpa using h), _, ho, fun ed h1 h2 => by
    have hlt := pl.back i _ ho ed h1 h2
    exact ih ed.on hlt (by omega)⟩
   rw [hr] at this; cases this
theorem RI.sim {Q : Exit → Act → World → Prop} (hc : CallsOk P G call) (pl : Pl P G n call ops nx0 ms st) (hQ : ∀ σ' w' a', Tr G σ0 h0 nx0 w0 σ' (OV nx0 (st ops.size).F (st ops.size).cur).get (st ops.size).cur.nx w' → ER σ' n (st ops.size).e a' → a'.defers = D → Q .normal a' w') :
 ∀ (f : Nat) {listed : Array Bool} {a : Act} {w : World} {σ : Sg} {hs : Hf} {sn : Snap}, RI G n D ops nx0 st σ0 h0 w0 listed a w σ hs sn → left listed = f → wpAnyIn (rF rd) 2 P .any ops Q f listed a w
 | 0, listed, a, w, σ, hs, sn, ri, hl => by
  have hall : ∀ i, i < ops.size → Ls listed i := fun i hi => Z9 hl (by rw [ri.size]; exact hi)
  obtain ⟨h1, h2, h3⟩ := ri.final pl hall
  refine ⟨?_, hQ σ w a h1 h2 h3⟩
  cases hr : Region.ready .any ops listed with
  | nil => rfl
  | cons i r =>
   obtain ⟨hun, o, ho, _⟩ := mem_ready.1 (show i ∈ Region.ready .any ops listed by rw [hr]; simp)
   have := hall i (Array.getElem?_eq_some_iff.1 ho).1
   unfold Ls at this; rw [getD_both hun] at this; cases this
 | f + 1, listed, a, w, σ, hs, sn, ri, hl => by
  refine ⟨fun hr => ?_, fun i hi => ?_⟩
  ·obtain ⟨h1, h2, h3⟩ := ri.final pl (cX pl ri.size hr)
   exact hQ σ w a h1 h2 h3
  ·refine wpOpIn_mono (fun a' w' h => ?_) (ri.next hc pl hi)
   obtain ⟨σ', hs', sn', ri'⟩ := h
   obtain ⟨hun, o, ho, _⟩ := mem_ready.1 hi
   have hS : ¬ Ls listed i := fun h => by unfold Ls at h; rw [getD_both hun] at h; cases h
   have := WA (listed := listed) (i := i) (by rw [ri.size]; exact (Array.getElem?_eq_some_iff.1 ho).1) hS
   exact RI.sim hc pl hQ f ri' (by omega)
end
theorem oJ {P : Program} {G : Nat} (hm : P.follows .mixedOrders = true) (call : CallF) (n : Nat) (hc : CallsOk P G call) : XK P G n (pG P G n call) := by
 intro rd id ops e h nx σ a w Q b0 er m mk hb0 hp
 have hp' : Post G n b0 σ h nx w Q (bo (TG ops (ops.toList.zip (G4 ops.toList [])) 0 []) (oo (dGo P G n call ops nx (ops.toList.zip (G4 ops.toList [])) 0 ⟨e, [], ⟨h, nx + ops.toList.length, 0, none⟩, [], [], [], undef, 3⟩) .bad (fun s => .nrm s.e (OV nx s.F s.cur) s.cur.nx)) .bad) := hp
 cases h1 : TG ops (ops.toList.zip (G4 ops.toList [])) 0 [] with
 | false => rw [h1] at hp'; exact hp'.elim
 | true =>
  rw [h1, CG] at hp'
  cases h2 : dGo P G n call ops nx (ops.toList.zip (G4 ops.toList [])) 0 ⟨e, [], ⟨h, nx + ops.toList.length, 0, none⟩, [], [], [], undef, 3⟩ with
  | none => rw [h2] at hp'; exact hp'.elim
  | some sN =>
   rw [h2, HU] at hp'
   obtain ⟨ms, st, pl, hs0, hsN⟩ := sT h1 h2
   refine wpIn_region_any hm ?_
   have m' : MR G σ h.get nx w.drew := m.drew
   have hlist : ∀ i, ¬ Ls (Array.replicate ops.size false) i := fun i hi => by unfold Ls at hi; rw [getD_replicate_false] at hi; cases hi
   have ri : RI G n a.defers ops nx st σ h.get w.drew (Array.replicate ops.size false) a w.drew σ h.get (st 0).cur := by
    rw [hs0]
    have tr : Tr G σ h.get nx w.drew σ h.get (nx + ops.toList.length) w.drew :=
     { Tr.refl m' with
      le := by omega
      mr := ⟨m'.blk, m'.sep, fun i hi => m'.free i (by omega), m'.glob, by have := m'.gle; omega⟩ }
    refine ⟨by simp, fun j o _ hj => absurd hj (hlist j), tr, fun _ _ h => h, fun j B hj => absurd hj (hlist j), fun j hj _ => ?_, fun j hj _ => m'.free _ (by omega), by simp, .inl ⟨by rw [hs0], fun b _ hb => absurd hb (hlist b)⟩, er.size, rfl, fun j o t _ hj => absurd hj (hlist j), fun t v _ hv => ?_⟩
    ·cases hq : h.get (nx + j) with
     | none => rfl
     | some B => obtain ⟨L, hL, _⟩ := m'.blk _ _ hq; rw [m'.free _ (by omega)] at hL; cases hL
    ·rw [hs0] at hv; exact er.get t v hv
   refine RI.sim hc pl (fun σ' w' a' ht er' hdf => ?_) ops.size ri ?_
   ·rw [hsN] at ht er'
    exact hp' σ' w' a' ht.drew er' (by rw [hdf]; exact mk.tr ht.drew)
   ·unfold left; simp [List.countP_replicate]
def rB (P : Program) (G fuel : Nat) (base : CallF) (d : Nat) : CallF := NR P G fuel (fun call n => pG P G n call) base d
theorem gW {P : Program} {G fuel d : Nat} {base : CallF} (hm : P.follows .mixedOrders = true) (hb : V4 P G base) : CallsOk P G (rB P G fuel base d) := X9 hb (fun call n hc => oJ hm call n hc) d
theorem nO {P : Program} {G : Nat} : V4 P G (fun _ _ _ _ => .bad) := fun f args h nx v h' nx' hm => by cases hm
end
def Y6 (r : OR) : Bool := @OR.rec (fun _ => Bool) false (fun v _ _ => match v with | .bool b => b | _ => false) r
theorem Y5 {r : OR} (h : Y6 r = true) : ∃ h' nx', r = .ok (.bool true) h' nx' := by
 cases r with
 | bad => cases h
 | ok v h' nx' =>
  cases v with
  | bool b => cases b with
   | true => exact ⟨h', nx', rfl⟩
   | false => cases h
  | _ => cases h
def gSg (G : Nat) : Sg := fun id => if id < G then some ⟨id, 0, 0⟩ else none
theorem mr0 (G : Nat) (w : World) : MR G (gSg G) (Tb.lf : Hp).get G w :=
 ⟨fun id B h => by (rw [Tb.get_lf] at h; cases h), fun id id' L L' h => by (rw [Tb.get_lf] at h; cases h), fun id h => by unfold gSg; rw [if_neg (by omega)], fun g hg => ⟨0, by unfold gSg; rw [if_pos hg]⟩, Nat.le_refl _⟩
theorem eU {P : Program} {G f : Nat} {call : CallF} (hc : CallsOk P G call) (hf : Nat.blt f P.funcs.size = true) (hr : Y6 (call f [] .lf G) = true) (w : World) : Calls P f #[] w fun x w' => x = .returned (.bool true) ∧ Fr0 w w' := by
 obtain ⟨h', nx', h1⟩ := Y5 hr
 refine (hc.fn f [] .lf G _ h' nx' (AZ hf) h1 (gSg G) w [] .nil (mr0 G w)).mono fun x w' ⟨σ', u, hx, hv, ht⟩ => ?_
 have := hv.scal_inv rfl
 subst this
 exact ⟨hx, ht.os, ht.tape, ht.output, ht.size, fun r hr _ => ht.fr r hr fun id L h => by (rw [Tb.get_lf] at h; cases h)⟩
def noCall : CallF := fun _ _ _ _ => .bad
theorem ST {P : Program} {G : Nat} : V4 P G noCall := nO
open Go.RowKit Go.ChangeShapes
def Laid (w : World) (L : List (Nat × List Value)) : Prop := ∀ p ∈ L, ∃ el fz, w.heap[p.1]? = some (.cells p.2.toArray el fz)
theorem Q9 {P : Program} {w : World} {name : String} {g : Nat} {cs : Array Value} (hg : P.globalNamed name = some g) (h : w.var? P name = some cs) : ∃ el fz, w.heap[g]? = some (.cells cs el fz) := by
 unfold World.var? at h
 rw [hg] at h
 simp only [Option.bind_some] at h
 split at h
 ·rename_i row el fz hrow
  injection h with h; subst h
  exact ⟨el, fz, hrow⟩
 ·cases h
theorem RM {H : Type} {enc : TypeId × Value → H} {P : Program} {w : World} {base : Nat} {sp : Nat → Bool} {held : Bool} {fuel : Nat} {t e : TypeId} {n : Nat} {k : IntKind} {f0 f1 : Field} {cs : List Value} {zs : List (Int × Int)} {p : List MemPlace}
 (ht : P.underlying t = some (.array n e)) (he : P.underlying e = some (.struct #[f0, f1])) (hb0 : P.underlying f0.type = some (.int k)) (hb1 : P.underlying f1.type = some (.int k)) (ho : f0.offset = 0 ∧ f1.offset = 1) (hc0 : P.cellsOf f0.type = 1) (hc1 : P.cellsOf f1.type = 1)
 (hce : P.cellsOf e = 2) (hct : P.cellsOf t = n * 2)
 (h : DataW.trod enc P w base sp held fuel t cs = some (.agg (zs.map fun z => .agg [.lit (.int k z.1), .lit (.int k z.2)]), p)) : cs = zs.flatMap fun z => [Value.int k z.1, Value.int k z.2] := by
 cases fuel with
 | zero => simp [DataW.trod] at h
 | succ fuel =>
  simp only [DataW.trod, ht, hce, hct] at h
  split at h
  ·rename_i hl
   obtain ⟨xs, hm, hx⟩ := Option.map_eq_some_iff.1 h
   have hxs : xs.map (·.1) = zs.map fun z => (DataW.agg [.lit (.int k z.1), .lit (.int k z.2)] : DataW H) := by
    have := congrArg Prod.fst hx
    simpa using this
   have hxl : xs.length = n := by simpa using Go.Lib.mapM_length hm
   have hzl : zs.length = n := by
    have := congrArg List.length hxs
    simp at this
    omega
   have hpair : ∀ i z, zs[i]? = some z → cs[2 * i]? = some (.int k z.1) ∧ cs[2 * i + 1]? = some (.int k z.2) := fun i z hz => by
    have hi : i < n := by have := (List.getElem?_eq_some_iff.1 hz).1; omega
    obtain ⟨x, hxi, hf⟩ := Go.Lib.mapM_at hm i i (by simp [hi])
    obtain ⟨y0, y1, m, hx2, _, g0, g1⟩ := trod_struct2 he hf
    rw [ho.1, hc0] at g0
    rw [ho.2, hc1] at g1
    obtain ⟨a, ha, rfl, _⟩ := DataW.trod_int hb0 g0
    obtain ⟨c, hc, rfl, _⟩ := DataW.trod_int hb1 g1
    have h2 : (xs.map (·.1))[i]? = some (DataW.agg [.lit (.int k a), .lit (.int k c)]) := by rw [List.getElem?_map, hxi, hx2]; rfl
    rw [hxs, List.getElem?_map, hz] at h2
    simp only [Option.map_some, Option.some.injEq, DataW.agg.injEq, List.cons.injEq, DataW.lit.injEq, Lit.int.injEq, true_and, and_true] at h2
    obtain ⟨rfl, rfl⟩ := h2
    have q0 := congrArg (·[0]?) ha
    have q1 := congrArg (·[0]?) hc
    simp [List.getElem?_drop] at q0 q1
    rw [Nat.mul_comm] at q0 q1
    exact ⟨q0, q1⟩
   have hlen : (zs.flatMap fun z => [Value.int k z.1, Value.int k z.2]).length = n * 2 := by
    rw [← hzl]; clear hpair hxs hl hm h hx hzl
    induction zs with
    | nil => rfl
    | cons z zs ih => simp only [List.flatMap_cons, List.length_append, ih, List.length_cons, List.length_nil]; omega
   have hget : ∀ (zs : List (Int × Int)) (i : Nat) z, zs[i]? = some z → (zs.flatMap fun z => [Value.int k z.1, Value.int k z.2])[2 * i]? = some (.int k z.1) ∧ (zs.flatMap fun z => [Value.int k z.1, Value.int k z.2])[2 * i + 1]? = some (.int k z.2) := by
    intro zs
    induction zs with
    | nil => intro i z hz; simp at hz
    | cons y zs ih =>
     intro i z hz
     cases i with
     | zero => simp only [List.getElem?_cons_zero, Option.some.injEq] at hz; subst hz; exact ⟨rfl, rfl⟩
     | succ i =>
      have := ih i z (by simpa using hz)
      simp only [List.flatMap_cons]
      rw [List.getElem?_append_right (by simp; omega), List.getElem?_append_right (by simp; omega)]
      simpa [show 2 * (i + 1) - 2 = 2 * i by omega, show 2 * (i + 1) + 1 - 2 = 2 * i + 1 by omega] using this
   apply List.ext_getElem?
   intro j
   by_cases hj : j < n * 2
   ·obtain ⟨z, hz⟩ : ∃ z, zs[j / 2]? = some z := ⟨_, List.getElem?_eq_getElem (by omega)⟩
    have a := hpair _ _ hz
    have c := hget zs _ _ hz
    rcases Nat.mod_two_eq_zero_or_one j with hm2 | hm2
    ·have : j = 2 * (j / 2) := by omega
     rw [this, a.1, c.1]
    ·have : j = 2 * (j / 2) + 1 := by omega
     rw [this, a.2, c.2]
   ·rw [List.getElem?_eq_none (by omega), List.getElem?_eq_none (by omega)]
  ·cases h
open Tryz
def iM (v : Value) (r : OR) : Bool := @OR.rec (fun _ => Bool) false (fun u _ _ => veq u v) r
theorem YY {P : Program} {G f : Nat} {call : CallF} {v : Value} (hc : CallsOk P G call) (hf : Nat.blt f P.funcs.size = true) (hv : O0 v = true) (hr : iM v (call f [] .lf G) = true) (w : World) : Calls P f #[] w fun x w' => x = .returned v ∧ Fr0 w w' := by
 unfold iM at hr
 cases hq : call f [] .lf G with
 | bad => rw [hq] at hr; cases hr
 | ok u h' nx' =>
  rw [hq] at hr
  have : u = v := fK hr
  subst this
  refine (hc.fn f [] .lf G _ h' nx' (AZ hf) hq (gSg G) w [] .nil (mr0 G w)).mono fun x w' ⟨σ', u', hx, hvr, ht⟩ => ?_
  have := VR.eq_of_flat hv hvr
  subst this
  exact ⟨hx, ht.os, ht.tape, ht.output, ht.size, fun r hr _ => ht.fr r hr fun id L h => by (rw [Tb.get_lf] at h; cases h)⟩
theorem mixed : prog.follows .mixedOrders = true := by kernel_rfl
def mK : Value := .agg ⟨[.int .u8 (.ofNat 0), .int .u8 (.ofNat 0), .int .u8 (.ofNat 0), .int .u8 (.ofNat 0), .int .u8 (.ofNat 0), .int .u8 (.ofNat 0), .int .u8 (.ofNat 0), .int .u8 (.ofNat 0), .int .u8 (.ofNat 0), .int .u8 (.ofNat 0), .int .u8 (.ofNat 0), .int .u8 (.ofNat 0), .int .u8 (.ofNat 0), .int .u8 (.ofNat 0), .int .u8 (.ofNat 0), .int .u8 (.ofNat 0), .int .u8 (.ofNat 0), .int .u8 (.ofNat 0), .int .u8 (.ofNat 0), .int .u8 (.ofNat 0), .int .u8 (.ofNat 0), .int .u8 (.ofNat 0), .int .u8 (.ofNat 0), .int .u8 (.ofNat 0), .int .u8 (.ofNat 0), .int .u8 (.ofNat 0), .int .u8 (.ofNat 0), .int .u8 (.ofNat 0), .int .u8 (.ofNat 0), .int .u8 (.ofNat 0), .int .u8 (.ofNat 0), .int .u8 (.ofNat 0), .int .u8 (.ofNat 0), .int .u8 (.ofNat 0), .int .u8 (.ofNat 0), .int .u8 (.ofNat 0), .int .u8 (.ofNat 0), .int .u8 (.ofNat 0), .int .u8 (.ofNat 0), .int .u8 (.ofNat 0), .int .u8 (.ofNat 0), .int .u8 (.ofNat 0), .int .u8 (.ofNat 0), .int .u8 (.ofNat 0), .int .u8 (.ofNat 0), .int .u8 (.ofNat 1), .int .u8 (.ofNat 1), .int .u8 (.ofNat 0), .int .u8 (.ofNat 1), .int .u8 (.ofNat 1), .int .u8 (.ofNat 1), .int .u8 (.ofNat 1), .int .u8 (.ofNat 1), .int .u8 (.ofNat 1), .int .u8 (.ofNat 1), .int .u8 (.ofNat 1), .int .u8 (.ofNat 1), .int .u8 (.ofNat 1), .int .u8 (.ofNat 0), .int .u8 (.ofNat 0), .int .u8 (.ofNat 0), .int .u8 (.ofNat 0), .int .u8 (.ofNat 0), .int .u8 (.ofNat 0), .int .u8 (.ofNat 0), .int .u8 (.ofNat 2), .int .u8 (.ofNat 2), .int .u8 (.ofNat 2), .int .u8 (.ofNat 2), .int .u8 (.ofNat 2), .int .u8 (.ofNat 2), .int .u8 (.ofNat 2), .int .u8 (.ofNat 2), .int .u8 (.ofNat 2), .int .u8 (.ofNat 2), .int .u8 (.ofNat 2), .int .u8 (.ofNat 2), .int .u8 (.ofNat 2), .int .u8 (.ofNat 2), .int .u8 (.ofNat 2), .int .u8 (.ofNat 2), .int .u8 (.ofNat 2), .int .u8 (.ofNat 2), .int .u8 (.ofNat 2), .int .u8 (.ofNat 2), .int .u8 (.ofNat 2), .int .u8 (.ofNat 2), .int .u8 (.ofNat 2), .int .u8 (.ofNat 2), .int .u8 (.ofNat 2), .int .u8 (.ofNat 2), .int .u8 (.ofNat 0), .int .u8 (.ofNat 0), .int .u8 (.ofNat 0), .int .u8 (.ofNat 0), .int .u8 (.ofNat 1), .int .u8 (.ofNat 0), .int .u8 (.ofNat 2), .int .u8 (.ofNat 2), .int .u8 (.ofNat 2), .int .u8 (.ofNat 2), .int .u8 (.ofNat 2), .int .u8 (.ofNat 2), .int .u8 (.ofNat 2), .int .u8 (.ofNat 2), .int .u8 (.ofNat 2), .int .u8 (.ofNat 2), .int .u8 (.ofNat 2), .int .u8 (.ofNat 2), .int .u8 (.ofNat 2), .int .u8 (.ofNat 2), .int .u8 (.ofNat 2), .int .u8 (.ofNat 2), .int .u8 (.ofNat 2), .int .u8 (.ofNat 2), .int .u8 (.ofNat 2), .int .u8 (.ofNat 2), .int .u8 (.ofNat 2), .int .u8 (.ofNat 2), .int .u8 (.ofNat 2), .int .u8 (.ofNat 2), .int .u8 (.ofNat 2), .int .u8 (.ofNat 2), .int .u8 (.ofNat 0), .int .u8 (.ofNat 0), .int .u8 (.ofNat 0), .int .u8 (.ofNat 0), .int .u8 (.ofNat 0), .int .u8 (.ofNat 0), .int .u8 (.ofNat 0), .int .u8 (.ofNat 0), .int .u8 (.ofNat 0), .int .u8 (.ofNat 0), .int .u8 (.ofNat 0), .int .u8 (.ofNat 0), .int .u8 (.ofNat 0), .int .u8 (.ofNat 0), .int .u8 (.ofNat 0), .int .u8 (.ofNat 0), .int .u8 (.ofNat 0), .int .u8 (.ofNat 0), .int .u8 (.ofNat 0), .int .u8 (.ofNat 0), .int .u8 (.ofNat 0), .int .u8 (.ofNat 0), .int .u8 (.ofNat 0), .int .u8 (.ofNat 0), .int .u8 (.ofNat 0), .int .u8 (.ofNat 0), .int .u8 (.ofNat 0), .int .u8 (.ofNat 0), .int .u8 (.ofNat 0), .int .u8 (.ofNat 0), .int .u8 (.ofNat 0), .int .u8 (.ofNat 0), .int .u8 (.ofNat 0), .int .u8 (.ofNat 0), .int .u8 (.ofNat 0), .int .u8 (.ofNat 0), .int .u8 (.ofNat 0), .int .u8 (.ofNat 0), .int .u8 (.ofNat 0), .int .u8 (.ofNat 0), .int .u8 (.ofNat 0), .int .u8 (.ofNat 0), .int .u8 (.ofNat 0), .int .u8 (.ofNat 0), .int .u8 (.ofNat 0), .int .u8 (.ofNat 0), .int .u8 (.ofNat 0), .int .u8 (.ofNat 0), .int .u8 (.ofNat 0), .int .u8 (.ofNat 0), .int .u8 (.ofNat 0), .int .u8 (.ofNat 0), .int .u8 (.ofNat 0), .int .u8 (.ofNat 0), .int .u8 (.ofNat 0), .int .u8 (.ofNat 0), .int .u8 (.ofNat 0), .int .u8 (.ofNat 0), .int .u8 (.ofNat 0), .int .u8 (.ofNat 0), .int .u8 (.ofNat 0), .int .u8 (.ofNat 0), .int .u8 (.ofNat 0), .int .u8 (.ofNat 0), .int .u8 (.ofNat 0), .int .u8 (.ofNat 0), .int .u8 (.ofNat 0), .int .u8 (.ofNat 0), .int .u8 (.ofNat 0), .int .u8 (.ofNat 0), .int .u8 (.ofNat 0), .int .u8 (.ofNat 0), .int .u8 (.ofNat 0), .int .u8 (.ofNat 0), .int .u8 (.ofNat 0), .int .u8 (.ofNat 0), .int .u8 (.ofNat 0), .int .u8 (.ofNat 0), .int .u8 (.ofNat 0), .int .u8 (.ofNat 0), .int .u8 (.ofNat 0), .int .u8 (.ofNat 0), .int .u8 (.ofNat 0), .int .u8 (.ofNat 0), .int .u8 (.ofNat 0), .int .u8 (.ofNat 0), .int .u8 (.ofNat 0), .int .u8 (.ofNat 0), .int .u8 (.ofNat 0), .int .u8 (.ofNat 0), .int .u8 (.ofNat 0), .int .u8 (.ofNat 0), .int .u8 (.ofNat 0), .int .u8 (.ofNat 0), .int .u8 (.ofNat 0), .int .u8 (.ofNat 0), .int .u8 (.ofNat 0), .int .u8 (.ofNat 0), .int .u8 (.ofNat 0), .int .u8 (.ofNat 0), .int .u8 (.ofNat 0), .int .u8 (.ofNat 0), .int .u8 (.ofNat 0), .int .u8 (.ofNat 0), .int .u8 (.ofNat 0), .int .u8 (.ofNat 0), .int .u8 (.ofNat 0), .int .u8 (.ofNat 0), .int .u8 (.ofNat 0), .int .u8 (.ofNat 0), .int .u8 (.ofNat 0), .int .u8 (.ofNat 0), .int .u8 (.ofNat 0), .int .u8 (.ofNat 0), .int .u8 (.ofNat 0), .int .u8 (.ofNat 0), .int .u8 (.ofNat 0), .int .u8 (.ofNat 0), .int .u8 (.ofNat 0), .int .u8 (.ofNat 0), .int .u8 (.ofNat 0), .int .u8 (.ofNat 0), .int .u8 (.ofNat 0), .int .u8 (.ofNat 0), .int .u8 (.ofNat 0), .int .u8 (.ofNat 0), .int .u8 (.ofNat 0), .int .u8 (.ofNat 0), .int .u8 (.ofNat 0), .int .u8 (.ofNat 0), .int .u8 (.ofNat 0), .int .u8 (.ofNat 0), .int .u8 (.ofNat 0)]⟩
theorem mI : iM mK (rB prog prog.globals.size 100000 noCall 60 125 [] .lf prog.globals.size) = true := by kernel_rfl
theorem fY : O0 mK = true := by kernel_rfl
theorem cN (w : World) : Calls prog 125 #[] w fun x w' => x = .returned mK ∧ Fr0 w w' := YY (gW mixed ST) (by kernel_rfl) fY mI w
def pairsZ : List (Int × Int) := [(128, 191), (160, 191), (128, 159), (144, 191), (128, 143), (0, 0), (0, 0), (0, 0), (0, 0), (0, 0), (0, 0), (0, 0), (0, 0), (0, 0), (0, 0), (0, 0)]
def qR : DataW Unit := .agg (pairsZ.map fun z => .agg [.lit (.int .u8 z.1), .lit (.int .u8 z.2)])
def firstZ : List Int := Go.Pinned.utf8FirstZ.map fun n => Int.ofNat n
def utfL : List (Nat × List Value) := [(0, firstZ.map fun z => Value.int .u8 z), (1, pairsZ.flatMap fun z => [Value.int .u8 z.1, Value.int .u8 z.2])]
theorem MP {P : Program} {W : World} : ∀ {l : List (String × DataW Unit)} {ps : List MemPlace}, DataW.LaidVars P W l ps → ∀ {n : String} {d : DataW Unit}, (n, d) ∈ l →
 ∃ g t cs fuel p, P.globalNamed n = some g ∧ (P.globals[g]?).map (·.type) = some t ∧ W.var? P n = some cs ∧ DataW.trod (fun _ => ()) P W 0 (fun _ => true) false fuel t cs.toList = some (d, p)
 | [], _, _, _, _, h => by cases h
 | (n', d') :: r, ps, hv, n, d, h => by
  obtain ⟨g, t, cs, fuel, p, q, h1, h2, h3, h4, h5, _⟩ := hv
  rcases List.mem_cons.1 h with he | h
  ·injection he with e1 e2; subst e1; subst e2
   exact ⟨g, t, cs, fuel, p, h1, h2, h3, h4⟩
  ·exact MP h5 h
theorem jX : Go.Pinned.utf8First = Go.Lib.tabData .u8 firstZ := by kernel_rfl
theorem first_named : prog.globalNamed "unicode/utf8.first" = some 0 := by kernel_rfl
theorem ranges_named : prog.globalNamed "unicode/utf8.acceptRanges" = some 1 := by kernel_rfl
theorem fM {l : List (String × DataW Unit)} {W : World} (hL : laidMet prog l W) (h1 : ("unicode/utf8.first", Go.Pinned.utf8First) ∈ l) (h2 : ("unicode/utf8.acceptRanges", qR) ∈ l) : Laid W utfL := by
 obtain ⟨ps, hv, _, _⟩ := hL
 intro p hp
 rcases List.mem_cons.1 hp with rfl | hp
 ·obtain ⟨g, t, cs, fuel, q, e1, e2, e3, e4⟩ := MP hv h1
  obtain rfl := Option.some.inj (first_named.symm.trans e1)
  obtain rfl := Option.some.inj ((show (prog.globals[0]?).map (·.type) = some 175 by kernel_rfl).symm.trans e2)
  rw [jX] at e4
  have e5 := Go.Lib.cells_of_tab underlying175 underlying5 (by kernel_rfl) (by kernel_rfl) e4
  have := Q9 first_named e3
  rw [← Array.toArray_toList (xs := cs), e5] at this
  exact this
 ·obtain rfl := List.mem_singleton.1 hp
  obtain ⟨g, t, cs, fuel, q, e1, e2, e3, e4⟩ := MP hv h2
  obtain rfl := Option.some.inj (ranges_named.symm.trans e1)
  obtain rfl := Option.some.inj ((show (prog.globals[1]?).map (·.type) = some 212 by kernel_rfl).symm.trans e2)
  have e5 := RM underlying212 underlying211 underlying5 underlying5 ⟨rfl, rfl⟩ (by kernel_rfl) (by kernel_rfl) (by kernel_rfl) (by kernel_rfl) e4
  have := Q9 ranges_named e3
  rw [← Array.toArray_toList (xs := cs), e5] at this
  exact this
def X2 (b : UInt8) : Bool := decide (128 ≤ b.toNat) && decide (b.toNat ≤ 191)
def lo2 (a : UInt8) : Nat := if a.toNat = 224 then 160 else if a.toNat = 240 then 144 else 128
def hi2 (a : UInt8) : Nat := if a.toNat = 237 then 159 else if a.toNat = 244 then 143 else 191
def mid (a b : UInt8) : Bool := decide (lo2 a ≤ b.toNat) && decide (b.toNat ≤ hi2 a)
def u2 (a : UInt8) : List UInt8 → Nat
 | b :: _ => if mid a b then 2 else 0
 | [] => 0
def u3 (a : UInt8) : List UInt8 → Nat
 | b :: c :: _ => if mid a b && X2 c then 3 else 0
 | _ => 0
def u4 (a : UInt8) : List UInt8 → Nat
 | b :: c :: d :: _ => if mid a b && X2 c && X2 d then 4 else 0
 | _ => 0
def OD (a : UInt8) (r : List UInt8) : Nat := if a.toNat < 128 then 1 else if a.toNat < 194 then 0 else if a.toNat < 224 then u2 a r else if a.toNat < 240 then u3 a r else if a.toNat < 245 then u4 a r else 0
def JV : List UInt8 → Nat
 | [] => 0
 | a :: r => OD a r
theorem HW (a : UInt8) (r : List UInt8) : JV (a :: r) = OD a r := rfl
def cE : Nat → List UInt8 → Bool
 | 0, l => l.isEmpty
 | n + 1, l => l.isEmpty || (JV l != 0 && cE n (l.drop (JV l)))
def utf (l : List UInt8) : Bool := cE l.length l
theorem SJ : ∀ (n m : Nat) (l : List UInt8), l.length ≤ n → l.length ≤ m → cE n l = cE m l
 | 0, 0, _, _, _ => rfl
 | 0, m + 1, l, h, _ => by
  have : l = [] := List.eq_nil_of_length_eq_zero (by omega)
  subst this; rfl
 | n + 1, 0, l, _, h => by
  have : l = [] := List.eq_nil_of_length_eq_zero (by omega)
  subst this; rfl
 | n + 1, m + 1, l, h1, h2 => by
  unfold cE
  by_cases h0 : JV l = 0
  ·simp [h0]
  ·rw [SJ n m (l.drop (JV l)) (by rw [List.length_drop]; omega) (by rw [List.length_drop]; omega)]
theorem VE (l : List UInt8) (h : l ≠ []) : utf l = (JV l != 0 && utf (l.drop (JV l))) := by
 unfold utf
 obtain ⟨a, r, rfl⟩ := List.exists_cons_of_ne_nil h
 rw [List.length_cons]
 conv => lhs; unfold cE
 by_cases h0 : JV (a :: r) = 0
 ·simp [h0]
 ·rw [SJ r.length _ _ (by rw [List.length_drop, List.length_cons]; omega) (Nat.le_refl _)]
  simp
theorem qC (l : List UInt8) (n : Nat) (hn : n ≠ 0) (h0 : JV l = n) : utf l = utf (l.drop n) := by
 have h : l ≠ [] := fun e => by subst e; exact hn h0.symm
 rw [VE l h, h0]
 simp [hn]
open Go.Lib
theorem Z0 (a : UInt8) (r : List UInt8) (h : 128 ≤ a.toNat) :
 checkN (a :: r).length ((a :: r).getD 1 0).toNat ((a :: r).getD 2 0).toNat ((a :: r).getD 3 0).toNat (firstT a.toNat % 8) (accLo (firstT a.toNat / 16)) (accHi (firstT a.toNat / 16)) = if JV (a :: r) = 0 then none else some (JV (a :: r)) := by
 have ha := a.toNat_lt
 by_cases c0 : a.toNat < 194
 ·have hu : JV (a :: r) = 0 := by rw [HW, OD, if_neg (by omega), if_pos c0]
  rw [hu, if_pos rfl]
  simp [firstT, checkN, show ¬ a.toNat < 128 by omega, c0]
 have fin2 : ∀ x lo hi, firstT a.toNat = x → x % 8 = 2 → accLo (x / 16) = lo → accHi (x / 16) = hi → lo = lo2 a → hi = hi2 a → checkN (a :: r).length ((a :: r).getD 1 0).toNat ((a :: r).getD 2 0).toNat ((a :: r).getD 3 0).toNat (firstT a.toNat % 8) (accLo (firstT a.toNat / 16)) (accHi (firstT a.toNat / 16)) = if u2 a r = 0 then none else some (u2 a r) := by
  intro x lo hi e1 e2 e3 e4 e5 e6
  rw [e1, e2, e3, e4]
  unfold checkN
  rw [if_pos rfl]
  match r with
  | [] => simp [u2]
  | b :: r =>
   have : mid a b = decide (lo ≤ b.toNat ∧ b.toNat ≤ hi) := by rw [e5, e6]; simp [mid]
   rw [u2, this]
   by_cases hb : lo ≤ b.toNat ∧ b.toNat ≤ hi
   ·simp [hb]
   ·simp only [hb]; simp <;> omega
 have fin3 : ∀ x lo hi, firstT a.toNat = x → x % 8 = 3 → accLo (x / 16) = lo → accHi (x / 16) = hi → lo = lo2 a → hi = hi2 a → checkN (a :: r).length ((a :: r).getD 1 0).toNat ((a :: r).getD 2 0).toNat ((a :: r).getD 3 0).toNat (firstT a.toNat % 8) (accLo (firstT a.toNat / 16)) (accHi (firstT a.toNat / 16)) = if u3 a r = 0 then none else some (u3 a r) := by
  intro x lo hi e1 e2 e3 e4 e5 e6
  rw [e1, e2, e3, e4]
  unfold checkN
  rw [if_neg (by omega), if_pos rfl]
  match r with
  | [] => simp [u3]
  | [b] => simp [u3]
  | b :: c :: r =>
   have : (mid a b && X2 c) = decide (lo ≤ b.toNat ∧ b.toNat ≤ hi ∧ 128 ≤ c.toNat ∧ c.toNat ≤ 191) := by
    rw [e5, e6, Bool.eq_iff_iff]; unfold mid X2; constructor <;> intro h <;> simp at h ⊢ <;> omega
   rw [u3, this]
   by_cases hb : lo ≤ b.toNat ∧ b.toNat ≤ hi ∧ 128 ≤ c.toNat ∧ c.toNat ≤ 191
   ·simp [hb]
   ·simp only [hb]; simp <;> omega
 have fin4 : ∀ x lo hi, firstT a.toNat = x → x % 8 = 4 → accLo (x / 16) = lo → accHi (x / 16) = hi → lo = lo2 a → hi = hi2 a → checkN (a :: r).length ((a :: r).getD 1 0).toNat ((a :: r).getD 2 0).toNat ((a :: r).getD 3 0).toNat (firstT a.toNat % 8) (accLo (firstT a.toNat / 16)) (accHi (firstT a.toNat / 16)) = if u4 a r = 0 then none else some (u4 a r) := by
  intro x lo hi e1 e2 e3 e4 e5 e6
  rw [e1, e2, e3, e4]
  unfold checkN
  rw [if_neg (by omega), if_neg (by omega), if_pos rfl]
  match r with
  | [] => simp [u4]
  | [b] => simp [u4]
  | [b, c] => simp [u4]
  | b :: c :: d :: r =>
   have : (mid a b && X2 c && X2 d) = decide (lo ≤ b.toNat ∧ b.toNat ≤ hi ∧ 128 ≤ c.toNat ∧ c.toNat ≤ 191 ∧ 128 ≤ d.toNat ∧ d.toNat ≤ 191) := by
    rw [e5, e6, Bool.eq_iff_iff]; unfold mid X2; constructor <;> intro h <;> simp at h ⊢ <;> omega
   rw [u4, this]
   by_cases hb : lo ≤ b.toNat ∧ b.toNat ≤ hi ∧ 128 ≤ c.toNat ∧ c.toNat ≤ 191 ∧ 128 ≤ d.toNat ∧ d.toNat ≤ 191
   ·simp [hb]
   ·simp only [hb]; simp <;> omega
 by_cases c1 : a.toNat < 224
 ·rw [show JV (a :: r) = u2 a r by rw [HW, OD, if_neg (by omega), if_neg c0, if_pos c1]]
  exact fin2 2 128 191 (by simp [firstT, show ¬ a.toNat < 128 by omega, c0, c1]) rfl rfl rfl (by unfold lo2; rw [if_neg (by omega), if_neg (by omega)]) (by unfold hi2; rw [if_neg (by omega), if_neg (by omega)])
 by_cases c5 : a.toNat < 240
 ·rw [show JV (a :: r) = u3 a r by rw [HW, OD, if_neg (by omega), if_neg c0, if_neg c1, if_pos c5]]
  by_cases c2 : a.toNat = 224
  ·exact fin3 19 160 191 (by rw [c2]; rfl) rfl rfl rfl (by unfold lo2; rw [if_pos c2]) (by unfold hi2; rw [if_neg (by omega), if_neg (by omega)])
  by_cases c4 : a.toNat = 237
  ·exact fin3 35 128 159 (by rw [c4]; rfl) rfl rfl rfl (by unfold lo2; rw [if_neg (by omega), if_neg (by omega)]) (by unfold hi2; rw [if_pos c4])
  ·refine fin3 3 128 191 ?_ rfl rfl rfl (by unfold lo2; rw [if_neg (by omega), if_neg (by omega)]) (by unfold hi2; rw [if_neg (by omega), if_neg (by omega)])
   by_cases c3 : a.toNat < 237
   ·simp [firstT, show ¬ a.toNat < 128 by omega, c0, c1, c2, c3]
   ·simp [firstT, show ¬ a.toNat < 128 by omega, c0, c1, c2, c3, c4, c5]
 by_cases c9 : a.toNat < 245
 ·rw [show JV (a :: r) = u4 a r by rw [HW, OD, if_neg (by omega), if_neg c0, if_neg c1, if_neg c5, if_pos c9]]
  by_cases c6 : a.toNat = 240
  ·exact fin4 52 144 191 (by rw [c6]; rfl) rfl rfl rfl (by unfold lo2; rw [if_neg (by omega), if_pos c6]) (by unfold hi2; rw [if_neg (by omega), if_neg (by omega)])
  by_cases c8 : a.toNat = 244
  ·exact fin4 68 128 143 (by rw [c8]; rfl) rfl rfl rfl (by unfold lo2; rw [if_neg (by omega), if_neg (by omega)]) (by unfold hi2; rw [if_neg (by omega), if_pos c8])
  ·exact fin4 4 128 191 (by simp [firstT, show ¬ a.toNat < 128 by omega, c0, c1, show ¬ a.toNat = 224 by omega, show ¬ a.toNat < 237 by omega, show ¬ a.toNat = 237 by omega, c5, c6, show a.toNat < 244 by omega]) rfl rfl rfl (by unfold lo2; rw [if_neg (by omega), if_neg (by omega)]) (by unfold hi2; rw [if_neg (by omega), if_neg (by omega)])
 ·rw [show JV (a :: r) = 0 by rw [HW, OD, if_neg (by omega), if_neg c0, if_neg c1, if_neg c5, if_neg c9], if_pos rfl]
  simp [firstT, checkN, show ¬ a.toNat < 128 by omega, c0, c1, show ¬ a.toNat = 224 by omega, show ¬ a.toNat < 237 by omega, show ¬ a.toNat = 237 by omega, c5, show ¬ a.toNat = 240 by omega, show ¬ a.toNat < 244 by omega, show ¬ a.toNat = 244 by omega]
theorem XP : ∀ (n : Nat) (l : List UInt8), l.length ≤ n → validD l = utf l
 | 0, l, h => by
  obtain rfl : l = [] := List.eq_nil_of_length_eq_zero (by omega)
  rfl
 | n + 1, [], _ => rfl
 | n + 1, a :: r, h => by
  rw [List.length_cons] at h
  by_cases c : a.toNat < 128
  ·rw [validD_cons a r c, qC (a :: r) 1 (by omega) (by rw [HW, OD, if_pos c])]
   exact XP n r (by omega)
  ·rw [validD_lead (a :: r) (by simp) (by show 128 ≤ a.toNat; omega)]
   have := Z0 a r (by omega)
   simp only [List.getD_cons_zero] at this ⊢
   rw [this, VE (a :: r) (by simp)]
   by_cases c0 : JV (a :: r) = 0
   ·rw [if_pos c0, c0]; rfl
   ·rw [if_neg c0]
    rw [show (JV (a :: r) != 0) = true by simp [c0], Bool.true_and]
    exact XP n _ (by rw [List.length_drop, List.length_cons]; omega)
def foL : List (Nat × Nat × Nat) := [(26, 0, 0), (26, 1, 1), (26, 2, 2), (26, 3, 3), (26, 4, 4), (29, 0, 0), (29, 1, 1), (29, 2, 2), (29, 3, 3), (29, 4, 4), (29, 5, 5), (29, 6, 6), (29, 7, 7), (29, 8, 8), (39, 3, 3), (39, 4, 4), (44, 0, 0), (44, 1, 1), (44, 2, 2), (44, 3, 3), (44, 4, 4), (47, 0, 0), (47, 1, 5), (47, 2, 6), (60, 0, 0), (60, 1, 5), (60, 2, 6), (60, 3, 7), (60, 4, 8), (60, 5, 9), (62, 0, 0), (62, 1, 1), (62, 2, 2), (62, 3, 3), (62, 4, 4), (62, 5, 5), (62, 6, 6), (62, 7, 7), (62, 8, 8), (62, 9, 9), (62, 10, 10), (65, 0, 0), (65, 1, 1), (65, 2, 2), (65, 3, 3), (67, 0, 0), (67, 1, 1), (67, 2, 2), (67, 3, 3), (70, 0, 0), (70, 1, 1), (70, 2, 5), (70, 3, 6), (95, 0, 0), (95, 1, 1), (102, 0, 0), (102, 1, 7), (102, 2, 8), (102, 3, 9), (104, 0, 0), (104, 1, 1), (104, 2, 2), (104, 3, 12), (104, 4, 13), (110, 0, 0), (110, 1, 1), (125, 0, 0), (125, 1, 1), (125, 2, 2), (125, 3, 3), (125, 4, 4), (125, 5, 5), (127, 0, 0), (127, 1, 1), (127, 2, 2), (127, 3, 3), (127, 4, 4), (139, 0, 0), (139, 1, 5), (139, 2, 6), (139, 3, 7), (196, 0, 0), (196, 1, 1), (211, 0, 0), (211, 1, 1), (272, 0, 0), (272, 1, 1), (272, 2, 2)]
def scL : List Nat := [2, 3, 4, 5, 9, 12, 21, 22, 23, 24, 27, 32, 35, 42, 45, 55, 56, 57, 58, 68, 73, 79, 87, 90, 91, 99, 100, 105, 106, 108, 121, 122, 123, 128, 132, 135, 137, 142, 143, 145, 147, 149, 152, 158, 171, 186, 188, 190, 193, 194, 202, 208, 213, 218, 220, 229, 235, 254, 263, 268, 269, 274, 278, 305]
def slL : List (Nat × Nat × Nat) := [(22, 95, 5), (23, 62, 11), (24, 65, 4), (35, 39, 5), (42, 29, 9), (45, 9, 1), (68, 70, 7), (90, 91, 1), (123, 127, 5), (194, 5, 1), (218, 3, 1), (305, 67, 4)]
def arL : List (Nat × Nat × Nat × Nat) := [(150, 2, 3, 1), (175, 256, 5, 1), (182, 256, 4, 1), (212, 16, 211, 2), (289, 24, 5, 1), (302, 20, 229, 1), (303, 65, 5, 1), (309, 32, 5, 1), (310, 64, 5, 1)]
def ptL : List (Nat × Nat) := [(32, 60), (87, 139), (100, 104), (122, 125), (186, 182), (193, 196), (208, 5), (268, 272), (278, 3)]
def S9 : List (Nat × Nat × Nat) → Nat → Nat → Option Nat
 | [], _, _ => none
 | (a, b, k) :: l, s, f => match Nat.beq a s with
  | true => match Nat.beq b f with
   | true => some k
   | false => S9 l s f
  | false => S9 l s f
def UM : List Nat → Nat → Bool
 | [], _ => false
 | a :: l, t => match Nat.beq a t with
  | true => true
  | false => UM l t
def jI : List (Nat × Nat × Nat) → Nat → Option (Nat × Nat)
 | [], _ => none
 | (a, p) :: l, t => match Nat.beq a t with
  | true => some p
  | false => jI l t
def jJ : List (Nat × Nat) → Nat → Option Nat
 | [], _ => none
 | (a, p) :: l, t => match Nat.beq a t with
  | true => some p
  | false => jJ l t
theorem WH : ∀ (l : List (Nat × Nat)) {t : Nat} {p : Nat}, jJ l t = some p → (t, p) ∈ l
 | [], _, _, h => by simp [jJ] at h
 | (a, q) :: l, t, p, h => by
  unfold jJ at h
  split at h
  ·rename_i h1; obtain rfl := Nat.eq_of_beq_eq_true h1; simp only [Option.some.injEq] at h; subst h; simp
  ·exact List.mem_cons_of_mem _ (WH l h)
def jH : List (Nat × Nat × Nat × Nat) → Nat → Option (Nat × Nat × Nat)
 | [], _ => none
 | (a, p) :: l, t => match Nat.beq a t with
  | true => some p
  | false => jH l t
theorem R5 : ∀ (l : List (Nat × Nat × Nat)) {s f k : Nat}, S9 l s f = some k → (s, f, k) ∈ l
 | [], _, _, _, h => by simp [S9] at h
 | (a, b, c) :: l, s, f, k, h => by
  unfold S9 at h
  split at h
  ·rename_i h1
   split at h
   ·rename_i h2
    obtain rfl := Nat.eq_of_beq_eq_true h1; obtain rfl := Nat.eq_of_beq_eq_true h2
    simp only [Option.some.injEq] at h; subst h; simp
   ·exact List.mem_cons_of_mem _ (R5 l h)
  ·exact List.mem_cons_of_mem _ (R5 l h)
theorem WD : ∀ (l : List Nat) {t : Nat}, UM l t = true → t ∈ l
 | [], _, h => by simp [UM] at h
 | a :: l, t, h => by
  unfold UM at h
  split at h
  ·rename_i h1; obtain rfl := Nat.eq_of_beq_eq_true h1; simp
  ·exact List.mem_cons_of_mem _ (WD l h)
theorem WG : ∀ (l : List (Nat × Nat × Nat)) {t : Nat} {p : Nat × Nat}, jI l t = some p → (t, p) ∈ l
 | [], _, _, h => by simp [jI] at h
 | (a, q) :: l, t, p, h => by
  unfold jI at h
  split at h
  ·rename_i h1; obtain rfl := Nat.eq_of_beq_eq_true h1; simp only [Option.some.injEq] at h; subst h; simp
  ·exact List.mem_cons_of_mem _ (WG l h)
theorem WF : ∀ (l : List (Nat × Nat × Nat × Nat)) {t : Nat} {p : Nat × Nat × Nat}, jH l t = some p → (t, p) ∈ l
 | [], _, _, h => by simp [jH] at h
 | (a, q) :: l, t, p, h => by
  unfold jH at h
  split at h
  ·rename_i h1; obtain rfl := Nat.eq_of_beq_eq_true h1; simp only [Option.some.injEq] at h; subst h; simp
  ·exact List.mem_cons_of_mem _ (WF l h)
theorem rU : foL.all (fun x => FA prog x.1 x.2.1 == some x.2.2) = true := by kernel_rfl
theorem qN : scL.all (fun x => MF prog x) = true := by kernel_rfl
theorem qM : slL.all (fun x => BT prog x.1 == some x.2) = true := by kernel_rfl
theorem sI : arL.all (fun x => EI prog x.1 == some x.2) = true := by kernel_rfl
theorem qQ : ptL.all (fun x => HR prog x.1 == some x.2) = true := by kernel_rfl
theorem DT : prog.follows .mixedOrders = true := by kernel_rfl
theorem pt {t el : Nat} (h : jJ ptL t = some el) : HR prog t = some el := by
 have := List.all_eq_true.1 qQ _ (WH _ h); simpa using this
theorem fo {s f k : Nat} (h : S9 foL s f = some k) : FA prog s f = some k := by
 have := List.all_eq_true.1 rU _ (R5 _ h); simpa using this
theorem yp {e : Env} {o : Oper} {w : World} {v : Value} (h : ND (S9 foL) e o.op = some v) : Y prog e o w v := pR (fun _ _ _ h => fo h) h
theorem yb {n : Nat} {Q : Exit → Act → World → Prop} {e : Env} {w : World} {ops : Array Oper} {o : Oper} {rest : List Oper} {d : Nat} {v : Value} (h : (o.guard, o.dst, Nat.blt d n, ND (S9 foL) e o.op) = (none, some d, true, some v)) (k : SxL prog ops Q n rest ((d, v) :: e) w) : SxL prog ops Q n (o :: rest) e w :=
 VI (A9 (Prod.mk.inj h).1) (Prod.mk.inj (Prod.mk.inj h).2).1 (Prod.mk.inj (Prod.mk.inj (Prod.mk.inj h).2).2).1 (yp (Prod.mk.inj (Prod.mk.inj (Prod.mk.inj h).2).2).2) k
theorem sc {t : Nat} (h : UM scL t = true) : MF prog t = true := List.all_eq_true.1 qN _ (WD _ h)
theorem yl {n : Nat} {Q : Exit → Act → World → Prop} {e : Env} {w : World} {ops : Array Oper} {o : Oper} {rest : List Oper} {d t g off : Nat} {x : Operand} {v : Value} (h : (o.guard, o.dst, Nat.blt d n, o.op) = (none, some d, true, .load t x)) (hx : (ev e x, UM scL t) = (some (.pointer (some ⟨g, off, none⟩)), true)) (hc : Cell w.heap g off v) (k : SxL prog ops Q n rest ((d, v) :: e) w) : SxL prog ops Q n (o :: rest) e w := by
 simp only [Prod.mk.injEq] at h hx
 exact VI (A9 h.1) h.2.1 h.2.2.1 (CO h.2.2.2 hx.1 (sc hx.2) hc) k
theorem ym {n : Nat} {Q : Exit → Act → World → Prop} {e : Env} {w : World} {ops : Array Oper} {o : Oper} {rest : List Oper} {j d' d t g off : Nat} {b : Bool} {x : Operand} {v : Value} (h : (o.guard, (ops[j]?).bind (·.dst), e.get d', o.dst, Nat.blt d n, o.op) = (some (j, b), some d', some (.bool b), some d, true, .load t x)) (hx : (ev e x, UM scL t) = (some (.pointer (some ⟨g, off, none⟩)), true)) (hc : Cell w.heap g off v) (k : SxL prog ops Q n rest ((d, v) :: e) w) : SxL prog ops Q n (o :: rest) e w := by
 simp only [Prod.mk.injEq] at h hx
 exact VI (B7 h.1 h.2.1 h.2.2.1) h.2.2.2.1 h.2.2.2.2.1 (CO h.2.2.2.2.2 hx.1 (sc hx.2) hc) k
theorem oc {ops : Array Oper} {Q : Exit → Act → World → Prop} {S : World → Prop} {t n f : Nat} {listed : Array Bool} {e : Env} {w : World} {o : Oper} {d : Nat} {v : Value} (i h : Nat) (ho : ops[i]? = some o) (hd : (o.guard, o.dst, Nat.blt d n, ND (S9 foL) e o.op) = (none, some d, true, some v)) (hS : S w) (k : SxO prog ops Q t S n f (listed.setIfInBounds i true) ((d, v) :: e) w) (hs : Region.noSelect ops = true := by kernel_rfl) (hQ : ∀ c (a : Act) t v w, Q (.panic c) (a.put t v) w → Q (.panic c) a w := by exact fun c a t v w h => by cases t <;> exact h) (hwait : HL ops h t = true := by kernel_rfl) (hih : Nat.blt i h = true := by exact rfl) (hf : Region.free .any ops listed i = true := by kernel_rfl) (hr : (Region.ready .any ops listed).contains i = true := by kernel_rfl) : SxO prog ops Q t S n (f + 1) listed e w := by
 simp only [Prod.mk.injEq] at hd
 exact ZP i h hs hQ hwait hih hf hr ho (A9 hd.1) hd.2.1 hd.2.2.1 hS (fun _ _ => yp hd.2.2.2) k
theorem sa {P : Program} {ops : Array Oper} {q : Act → Prop} {n : Nat} {e : Env} {w : World} {o : Oper} {rest : List Oper} {d : Nat} {v : Value} (h : (o.guard, o.dst, Nat.blt d n) = (none, some d, true)) (hy : Y P e o w v) (k : SxS P ops w q n rest ((d, v) :: e)) : SxS P ops w q n (o :: rest) e := by
 simp only [Prod.mk.injEq] at h
 exact CN (A9 h.1) h.2.1 h.2.2 hy k
theorem sb {ops : Array Oper} {q : Act → Prop} {n : Nat} {e : Env} {w : World} {o : Oper} {rest : List Oper} {d : Nat} {v : Value} (h : (o.guard, o.dst, Nat.blt d n, ND (S9 foL) e o.op) = (none, some d, true, some v)) (k : SxS prog ops w q n rest ((d, v) :: e)) : SxS prog ops w q n (o :: rest) e := by
 simp only [Prod.mk.injEq] at h
 exact CN (A9 h.1) h.2.1 h.2.2.1 (yp h.2.2.2) k
theorem sd {ops : Array Oper} {q : Act → Prop} {n : Nat} {e : Env} {w : World} {o : Oper} {rest : List Oper} {d t g off : Nat} {x : Operand} {v : Value} (h : (o.guard, o.dst, Nat.blt d n, o.op) = (none, some d, true, .load t x)) (hx : (ev e x, UM scL t) = (some (.pointer (some ⟨g, off, none⟩)), true)) (hc : Cell w.heap g off v) (k : SxS prog ops w q n rest ((d, v) :: e)) : SxS prog ops w q n (o :: rest) e := by
 simp only [Prod.mk.injEq] at h hx
 exact CN (A9 h.1) h.2.1 h.2.2.1 (CO h.2.2.2 hx.1 (sc hx.2) hc) k
theorem ol {ops : Array Oper} {Q : Exit → Act → World → Prop} {S : World → Prop} {t n f : Nat} {listed : Array Bool} {e : Env} {w : World} {o : Oper} {d t1 g off : Nat} {x : Operand} {v : Value} (i h : Nat) (ho : ops[i]? = some o) (hd : (o.guard, o.dst, Nat.blt d n, o.op) = (none, some d, true, .load t1 x)) (hx : (ev e x, UM scL t1) = (some (.pointer (some ⟨g, off, none⟩)), true)) (hS : S w) (hy : ∀ w', S w' → Cell w'.heap g off v) (k : SxO prog ops Q t S n f (listed.setIfInBounds i true) ((d, v) :: e) w) (hs : Region.noSelect ops = true := by kernel_rfl) (hQ : ∀ c (a : Act) t v w, Q (.panic c) (a.put t v) w → Q (.panic c) a w := by exact fun c a t v w h => by cases t <;> exact h) (hwait : HL ops h t = true := by kernel_rfl) (hih : Nat.blt i h = true := by exact rfl) (hf : Region.free .any ops listed i = true := by kernel_rfl) (hr : (Region.ready .any ops listed).contains i = true := by kernel_rfl) : SxO prog ops Q t S n (f + 1) listed e w := by
 simp only [Prod.mk.injEq] at hd hx
 exact ZP i h hs hQ hwait hih hf hr ho (A9 hd.1) hd.2.1 hd.2.2.1 hS (fun w' hw' => CO hd.2.2.2 hx.1 (sc hx.2) (hy w' hw')) k
theorem sl {t el sz : Nat} (h : jI slL t = some (el, sz)) : BT prog t = some (el, sz) := by
 have := List.all_eq_true.1 qM _ (WG _ h); simpa using this
theorem ar {t n el sz : Nat} (h : jH arL t = some (n, el, sz)) : EI prog t = some (n, el, sz) := by
 have := List.all_eq_true.1 sI _ (WF _ h); simpa using this
section
section
variable {P : Program} {Q : Exit → Act → World → Prop} {n : Nat} {e : Env} {w : World}
end
theorem Rd.ofBlk {w : World} {g : Nat} {t : TypeId} {xs : List Value} (h : Blk w g t xs) {n : Nat} (hn : xs.length = n) : Rd w (some ⟨g, 0, none⟩) n xs :=
 ⟨hn, fun _ => ⟨g, 0, rfl, fun j u hu => by rw [Nat.zero_add]; exact (h.cell j).trans hu⟩⟩
end
section
section
variable {P : Program} {Q : Exit → Act → World → Prop} {n : Nat} {e : Env} {w : World}
theorem U1 {x : Exit} {r : Env} (hl : r.le e) (h : QX Q x n r w) : QX Q x n e w := ⟨fun a ha => h.run a (ha.weak hl)⟩
end
section
variable {P : Program} {e : Env} {w : World} {o : Oper}
end
section
variable {P : Program} {ρ : Operand → Value} {w : World} {o : Oper}
theorem KE (t e size : Nat) (ho : o.op = .buildSlice t 0 #[]) (hu : P.underlying t = some (.slice e)) (hi : (P.info? e).map (·.size) = some size) :
 G8 P ρ o w fun v w' => ∃ g, v = .slice (some ⟨g, 0, none⟩) 0 0 ∧ w.heap.size ≤ g ∧ g < w'.heap.size ∧ Blk w' g e [] ∧ Fr0 w w' ∧ ∀ base, base ≤ w.heap.size → w'.ownsRow base e size v 0 [] := by
 cases hq : P.info? e with
 | none => simp [hq] at hi
 | some i =>
  have hr : (Instr.buildSlice t 0 #[]).run P w = .ok (.slice (some ⟨w.heap.size, 0, none⟩) 0 0) (w.alloc (.cells #[] e)) := by
   simp [Instr.buildSlice, run_underlying hu, sizeOf, typeInfo, hq, newRow, Instr.fill]
   rw [show Array.range 0 = #[] from by apply Array.eq_empty_of_size_eq_zero; simp, List.map_toArray, List.map_nil]
  refine ⟨_, w.alloc (.cells #[] e), .inl ?_, w.heap.size, rfl, Nat.le_refl _, by simp, Blk.new w e [], Fr.refl.alloc _, fun base hb => SR (dC w e size) hb⟩
  unfold execOp
  simp only [ho, Sem.run_bind]
  rw [List.map_toArray, List.map_nil, hr]
  rfl
end
end
section
def str (l : List UInt8) : Value := .string ⟨l.toArray⟩
section
variable {P : Program} {e : Env} {w : World} {o : Oper}
theorem EO {t : Nat} {x : Operand} {l : List UInt8} (ho : o.op = .call { callee := .builtin .len, args := #[x], argTypes := #[t] }) (hx : ev e x = some (str l)) (ht : P.underlying t = some .string) : Y P e o w (.int .i64 (l.length : Int)) := fun ρ h => by
 have hs : (ByteArray.mk l.toArray).size = l.length := by show l.toArray.size = _; simp
 unfold execOp
 simp [ho, h _ _ hx, str, resolve, invoke, builtin, Builtin.len_, run_underlying ht, goInt, hs]
theorem F5 {t : Nat} {x i : Operand} {l : List UInt8} {k : IntKind} {m : Nat} {b : UInt8} (ho : o.op = .index t x i) (hx : ev e x = some (str l)) (hi : ev e i = some (.int k (m : Int))) (ht : P.underlying t = some .string) (hb : l[m]? = some b) : Y P e o w (.int .u8 (b.toNat : Int)) := fun ρ h => by
 have hs : (ByteArray.mk l.toArray)[m]? = some b := by
  have hl := (List.getElem?_eq_some_iff.1 hb).1
  have he := (List.getElem?_eq_some_iff.1 hb).2
  rw [getElem?_pos (ByteArray.mk l.toArray) m (by show m < l.toArray.size; simpa using hl)]
  congr 1
 unfold execOp
 simp [ho, h _ _ hx, h _ _ hi, str, Instr.index, asIntOf, run_underlying ht, hs]
theorem DG {t t' : Nat} {a b : List UInt8} {x y : Operand} (ho : o.op = .binOp .eql t x y t') (hx : ev e x = some (str a)) (hy : ev e y = some (str b)) : Y P e o w (.bool (decide (a = b))) := fun ρ h => by
 have h1 : ρ x = .string ⟨a.toArray⟩ := h _ _ hx
 have h2 : ρ y = .string ⟨b.toArray⟩ := h _ _ hy
 unfold execOp
 simp [ho, h1, h2, eqGuard_at_string, binOp, Op.stringOp]
 by_cases hab : a = b
 ·subst hab; simp
 ·simp [hab]
end
end
section
def CE : List (List UInt8 × Value) → List UInt8 → Option Value
 | [], _ => none
 | (k', v) :: r, k => if k = k' then some v else CE r k
def CV : List (List UInt8 × Value) → List UInt8 → Value → List (List UInt8 × Value)
 | [], k, v => [(k, v)]
 | (k', v') :: r, k, v => if k = k' then (k, v) :: r else (k', v') :: CV r k v
theorem FM (k k' : List UInt8) (v : Value) : ∀ L, CE (CV L k v) k' = if k' = k then some v else CE L k'
 | [] => by simp [CV, CE]
 | (k1, v1) :: r => by
  unfold CV
  by_cases h : k = k1
  ·subst h; rw [if_pos rfl]; unfold CE; by_cases h2 : k' = k <;> simp [h2]
  ·rw [if_neg h]; unfold CE
   by_cases h2 : k' = k1
   ·subst h2; rw [if_pos rfl, if_pos rfl, if_neg (fun e => h e.symm)]
   ·rw [if_neg h2, if_neg h2]; exact FM k k' v r
def Mp (w : World) (g : Nat) (L : List (List UInt8 × Value)) : Prop := ∃ (es : Array MapEntry) (clock : Nat), w.heap[g]? = some (.map es clock) ∧ es.toList.map (fun e => (e.key, e.val)) = L.map fun p => (str p.1, p.2)
theorem Mp.lt {w : World} {g : Nat} {L : List (List UInt8 × Value)} (h : Mp w g L) : g < w.heap.size := by
 obtain ⟨es, cl, h, _⟩ := h; exact (Array.getElem?_eq_some_iff.1 h).1
theorem Mp.fr {S : Nat → Prop} {w w' : World} {g : Nat} {L : List (List UInt8 × Value)} (h : Mp w g L) (hf : Fr S w w') (hn : ¬ S g) : Mp w' g L := by
 obtain ⟨es, cl, h1, h2⟩ := h
 exact ⟨es, cl, (hf.block g (Array.getElem?_eq_some_iff.1 h1).1 hn).trans h1, h2⟩
theorem TY (a b : List UInt8) : ((⟨a.toArray⟩ : ByteArray) == ⟨b.toArray⟩) = decide (a = b) := by
 have h1 : ((⟨a.toArray⟩ : ByteArray) == ⟨b.toArray⟩) = (a.toArray == b.toArray) := rfl
 rw [h1]; by_cases h : a = b <;> simp [h]
theorem gV (a b : List UInt8) : Instr.sameNow .string (str a) (str b) = some (decide (a = b)) := by
 unfold str
 simp only [Instr.sameNow, TY]
section
variable {P : Program} {e : Env} {w : World} {o : Oper}
theorem MT (k : List UInt8) : ∀ (L : List (List UInt8 × Value)) (es : List MapEntry) (i : Nat), es.map (fun e => (e.key, e.val)) = L.map (fun p => (str p.1, p.2)) →
 (CE L k = none ∧ Instr.findNow .string (str k) es i = some none ∧ CV L k = fun v => L ++ [(k, v)]) ∨
 ∃ j v, CE L k = some v ∧ Instr.findNow .string (str k) es i = some (some (i + j, v)) ∧ j < L.length ∧ (L[j]?).map (·.1) = some k ∧ CV L k = fun v => L.set j (k, v)
 | [], es, i, h => by
  obtain rfl : es = [] := by simpa using h
  exact .inl ⟨rfl, rfl, by funext v; rfl⟩
 | (k', v') :: L, [], i, h => by simp at h
 | (k', v') :: L, en :: es, i, h => by
  simp only [List.map_cons, List.cons.injEq, Prod.mk.injEq] at h
  obtain ⟨⟨h1, h2⟩, h3⟩ := h
  have hc : Instr.findNow .string (str k) (en :: es) i = match Instr.sameNow .string (str k) en.key with | some true => some (some (i, en.val)) | some false => Instr.findNow .string (str k) es (i + 1) | none => none := rfl
  rw [h1, gV] at hc
  by_cases hk : k = k'
  ·subst hk
   right
   refine ⟨0, v', by simp [CE], ?_, by simp, by simp, by funext v; simp [CV]⟩
   rw [hc]; simp [h2]
  ·rcases MT k L es (i + 1) h3 with ⟨a1, a2, a3⟩ | ⟨j, v, a1, a2, a3, a4, a5⟩
   ·left
    refine ⟨by simp [CE, hk, a1], ?_, by funext v; simp [CV, hk, a3]⟩
    rw [hc]; simp [hk, a2]
   ·right
    refine ⟨j + 1, v, by simp [CE, hk, a1], ?_, by simp; omega, by simpa using a4, by funext v; simp [CV, hk, a5]⟩
    rw [hc]; simp [hk, a2]; omega
theorem FK {kt : TypeId} {k : List UInt8} {es : List MapEntry} {r : Option (Nat × Value)} (hd : P.underlying kt = some .string) (hf : Instr.findNow .string (str k) es 0 = some r) (w : World) : (Instr.findKey kt (str k) es).run P w = .ok r w := by
 unfold Instr.findKey
 simp [run_underlying hd, hf]
theorem G0 {kt : TypeId} (hd : P.underlying kt = some .string) (k : List UInt8) (b : Bool) (w : World) : (Instr.checkKey b 10000 kt (str k)).run P w = .ok () w := by
 show (Instr.checkKey b (9999 + 1) kt _).run P w = _
 unfold Instr.checkKey
 simp [run_underlying hd]
theorem HY {g clock : Nat} {es : Array MapEntry} (hb : w.heap[g]? = some (.map es clock)) : (Go.getObj g).run P w = .ok (.map es clock) w := by
 unfold Go.getObj
 simp only [Sem.run, hb]
theorem WX {ρ : Operand → Value} {t : TypeId} (ho : o.op = .makeMap t none) : G8 P ρ o w fun v w' => v = .map (some w.heap.size) ∧ w' = w.alloc (.map #[] 0) := by
 refine ⟨_, _, .inl ?_, rfl, rfl⟩
 unfold execOp
 simp [ho, Instr.makeMap]
theorem r9 (w : World) : Mp (w.alloc (.map #[] 0)) w.heap.size [] := ⟨#[], 0, by show (w.heap.push (.map #[] 0))[w.heap.size]? = _; simp, rfl⟩
theorem eN {ρ : Operand → Value} {t : TypeId} (ho : o.op = .makeMap t none) : G8 P ρ o w fun v w' => ∃ g, v = .map (some g) ∧ w.heap.size ≤ g ∧ g < w'.heap.size ∧ Mp w' g [] ∧ Fr0 w w' :=
 (WX ho).mono fun v w' ⟨h1, h2⟩ => by
  subst h2
  exact ⟨w.heap.size, h1, Nat.le_refl _, by simp, r9 w, Fr.refl.alloc _⟩
theorem V6 {t kt el : TypeId} {x i : Operand} {ok : Bool} {g : Nat} {k : List UInt8} {L : List (List UInt8 × Value)} {z : Value} (ho : o.op = .lookup t x i ok) (hx : ev e x = some (.map (some g))) (hi : ev e i = some (str k)) (hu : P.underlying t = some (.map kt el)) (hd : P.underlying kt = some .string)
 (hz : (P.info? el).map (·.zero) = some (some z)) (hM : Mp w g L) : Y P e o w (if ok then .tuple #[(CE L k).getD z, .bool (CE L k).isSome] else (CE L k).getD z) := fun ρ h => by
 obtain ⟨es, clock, hb, hes⟩ := hM
 obtain ⟨inf, hinf, hinz⟩ := Option.map_eq_some_iff.1 hz
 have h1 : ρ x = .map (some g) := h _ _ hx
 have h2 : ρ i = str k := h _ _ hi
 unfold execOp
 simp only [ho, h1, h2]
 unfold Instr.lookup
 simp only [Sem.run_bind, run_underlying hu, Result.andThen_ok, Sem.run_pure, HY hb, G0 hd]
 rcases MT k L es.toList 0 hes with ⟨a1, a2, _⟩ | ⟨j, v, a1, a2, _, _, _⟩
 ·simp only [FK hd a2, a1]
  cases ok <;> simp [zeroValue, typeInfo, hinf, hinz]
 ·simp only [FK hd a2, a1]
  cases ok <;> simp
theorem OU {ρ : Operand → Value} {t kt el : TypeId} {mp i x : Operand} {g : Nat} {k : List UInt8} {v : Value} {L : List (List UInt8 × Value)} (ho : o.op = .mapUpdate t mp i x ∨ o.op = .insert t mp i x) (hm : ρ mp = .map (some g)) (hi : ρ i = str k) (hx : ρ x = v) (hu : P.underlying t = some (.map kt el)) (hd : P.underlying kt = some .string)
 (hM : Mp w g L) : G8 P ρ o w fun u w' => u = undef ∧ Fr (fun b => b = g) w w' ∧ Mp w' g (CV L k v) := by
 obtain ⟨es, clock, hb, hes⟩ := hM
 have hlt : g < w.heap.size := (Array.getElem?_eq_some_iff.1 hb).1
 have fin : ∀ (es' : Array MapEntry) (clock' : Nat), (Instr.mapUpdate t (.map (some g)) (str k) v).run P w = .ok () { w with heap := w.heap.setIfInBounds g (.map es' clock') } → es'.toList.map (fun e => (e.key, e.val)) = (CV L k v).map (fun p => (str p.1, p.2)) →
  G8 P ρ o w fun u w' => u = undef ∧ Fr (fun b => b = g) w w' ∧ Mp w' g (CV L k v) := fun es' clock' hrun hes' => by
  refine ⟨undef, { w with heap := w.heap.setIfInBounds g (.map es' clock') }, .inr ⟨?_, rfl⟩, rfl, ⟨rfl, rfl, rfl, by simp, fun r _ hn => by simp [Array.getElem?_setIfInBounds_ne (Ne.symm hn)]⟩, es', clock', by simp [hlt], hes'⟩
  rcases ho with ho | ho <;> (unfold execOp; simp only [ho, hm, hi, hx, Sem.run_bind, hrun, Result.andThen_ok]; rfl)
 have hbits : Instr.sameBits 10000 (str k) (str k) = true := by
  unfold str
  simp [Instr.sameBits, TY]
 rcases MT k L es.toList 0 hes with ⟨a1, a2, a3⟩ | ⟨j, v0, a1, a2, a3, a4, a5⟩
 ·refine fin (es.push { key := str k, val := v, born := clock }) (clock + 1) ?_ (by rw [a3]; simp [hes])
  unfold Instr.mapUpdate
  simp only [Sem.run_bind, run_underlying hu, Result.andThen_ok, HY hb, G0 hd, FK hd a2]
  unfold setObj
  simp only [Sem.run, hb]
 ·rw [Nat.zero_add] at a2
  have hlen : es.toList.length = L.length := by have := congrArg List.length hes; simpa using this
  obtain ⟨en, hen⟩ : ∃ en, es[j]? = some en := ⟨_, Array.getElem?_eq_getElem (by simp at hlen; omega)⟩
  have hkey : en.key = str k := by
   have h1 := congrArg (·[j]?) hes
   simp only [List.getElem?_map] at h1
   have h2 : es.toList[j]? = some en := by simpa using hen
   rw [h2] at h1
   cases hL : L[j]? with
   | none => rw [hL] at h1; cases h1
   | some p =>
    rw [hL] at h1 a4
    simp only [Option.map_some, Option.some.injEq, Prod.mk.injEq] at h1 a4
    rw [h1.1, a4]
  refine fin (es.modify j fun e => { e with key := str k, val := v }) clock ?_ ?_
  ·have hold : ((es[j]?).map (·.key)).getD (str k) = str k := by rw [hen]; exact hkey
   unfold Instr.mapUpdate
   simp only [Sem.run_bind, run_underlying hu, Result.andThen_ok, HY hb, G0 hd, FK hd a2, hold, Instr.keyThatStays, hbits, if_true, Sem.run_pure]
   unfold setObj
   simp only [Sem.run, hb]
  ·rw [a5]
   apply List.ext_getElem?
   intro i
   have h1 := congrArg (·[i]?) hes
   simp only [List.getElem?_map] at h1
   rw [Array.toList_modify, List.getElem?_map, List.getElem?_modify, List.getElem?_map, List.getElem?_set]
   by_cases hij : j = i
   ·subst hij
    simp [hen, a3]
   ·simp [hij]
    simpa using h1
theorem G6 {ρ : Operand → Value} {t kt el : TypeId} {mp i x : Operand} {g : Nat} {k : List UInt8} {v : Value} {L : List (List UInt8 × Value)} (ho : o.op = .mapUpdate t mp i x) (hm : ρ mp = .map (some g)) (hi : ρ i = str k) (hx : ρ x = v) (hu : P.underlying t = some (.map kt el)) (hd : P.underlying kt = some .string)
 (hM : Mp w g L) : G8 P ρ o w fun u w' => u = undef ∧ Fr (fun b => b = g) w w' ∧ Mp w' g (CV L k v) := OU (.inl ho) hm hi hx hu hd hM
theorem WY {ρ : Operand → Value} {t kt el : TypeId} {mp i x : Operand} {g : Nat} {k : List UInt8} {v : Value} {L : List (List UInt8 × Value)} (ho : o.op = .insert t mp i x) (hm : ρ mp = .map (some g)) (hi : ρ i = str k) (hx : ρ x = v) (hu : P.underlying t = some (.map kt el)) (hd : P.underlying kt = some .string)
 (hM : Mp w g L) : G8 P ρ o w fun u w' => u = undef ∧ Fr (fun b => b = g) w w' ∧ Mp w' g (CV L k v) := OU (.inr ho) hm hi hx hu hd hM
end
end
section
structure As where
 fp : List Nat
 ok : World → Prop
 keep : ∀ {w w' : World}, (∀ g ∈ fp, g < w.heap.size → w'.heap[g]? = w.heap[g]?) → ok w → ok w'
def As.blk (g : Nat) (t : TypeId) (cs : List Value) : As := ⟨[g], fun w => Blk w g t cs, fun h hb => (h g (by simp) hb.lt).trans hb⟩
def As.mp (g : Nat) (M : List (List UInt8 × Value)) : As := ⟨[g], fun w => Mp w g M, fun h hb => by
 obtain ⟨es, cl, h1, h2⟩ := hb
 exact ⟨es, cl, (h g (by simp) (Array.getElem?_eq_some_iff.1 h1).1).trans h1, h2⟩⟩
def As.own (base : Nat) (e : TypeId) (size : Nat) (v : Value) (n : Nat) (xs : List Value) : As := ⟨v.ownBlock.toList, fun w => w.ownsRow base e size v n xs, fun h hb => by
 refine ⟨hb.1, ?_⟩
 rcases hb.2 with hh | ⟨g, cap, cur, rfl, hb, hg, r⟩
 ·exact .inl hh
 ·exact .inr ⟨g, cap, cur, rfl, hb, (h g (by simp [Value.ownBlock]) (Array.getElem?_eq_some_iff.1 hg).1).trans hg, r⟩⟩
def As.none : As := ⟨[], fun _ => True, fun _ _ => trivial⟩
structure Mem (w0 : World) (S : Nat → Prop) (L : List As) (w : World) : Prop where
 fr : Fr S w0 w
 ok : ∀ (i : Nat) (a : As), L[i]? = some a → a.ok w
 lt : ∀ (i : Nat) (a : As), L[i]? = some a → ∀ g ∈ a.fp, g < w.heap.size ∧ (w0.heap.size ≤ g ∨ S g)
 apart : ∀ (i j : Nat) (a b : As), L[i]? = some a → L[j]? = some b → i ≠ j → ∀ g ∈ a.fp, g ∉ b.fp
namespace Mem
variable {w0 w w' : World} {S : Nat → Prop} {L : List As}
theorem nil (w : World) : Mem w S [] w := ⟨Fr.refl, by simp, by simp, by simp⟩
theorem ofFr (h : Fr S w0 w) : Mem w0 S [] w := ⟨h, by simp, by simp, by simp⟩
theorem step (M : Mem w0 S L w) (hf : Fr0 w w') : Mem w0 S L w' where
 fr := M.fr.then0 hf
 ok i a hi := a.keep (fun g _ hg => hf.block g hg (fun hh => hh)) (M.ok i a hi)
 lt i a hi g hg := by
  obtain ⟨h1, h2⟩ := M.lt i a hi g hg
  exact ⟨Nat.lt_of_lt_of_le h1 hf.size, h2⟩
 apart := M.apart
theorem drew (M : Mem w0 S L w) : Mem w0 S L w.drew := M.step (Fr.drew Fr.refl)
theorem push (M : Mem w0 S L w) (hf : Fr0 w w') (a : As) (hok : a.ok w') (hfp : ∀ g ∈ a.fp, w.heap.size ≤ g ∧ g < w'.heap.size) : Mem w0 S (a :: L) w' := by
 have M' := M.step hf
 refine ⟨M'.fr, ?_, ?_, ?_⟩
 ·intro i b hi
  cases i with
  | zero => simp only [List.getElem?_cons_zero, Option.some.injEq] at hi; subst hi; exact hok
  | succ i => exact M'.ok i b (by simpa using hi)
 ·intro i b hi g hg
  cases i with
  | zero =>
   simp only [List.getElem?_cons_zero, Option.some.injEq] at hi; subst hi
   obtain ⟨h1, h2⟩ := hfp g hg
   exact ⟨h2, .inl (Nat.le_trans M.fr.size h1)⟩
  | succ i => exact M'.lt i b (by simpa using hi) g hg
 ·intro i j b c hi hj hne g hg hg'
  cases i with
  | zero =>
   cases j with
   | zero => exact hne rfl
   | succ j =>
    simp only [List.getElem?_cons_zero, Option.some.injEq] at hi; subst hi
    have h1 := (hfp g hg).1
    have h2 := (M.lt j c (by simpa using hj) g hg').1
    omega
  | succ i =>
   cases j with
   | zero =>
    simp only [List.getElem?_cons_zero, Option.some.injEq] at hj; subst hj
    have h1 := (hfp g hg').1
    have h2 := (M.lt i b (by simpa using hi) g hg).1
    omega
   | succ j => exact M.apart i j b c (by simpa using hi) (by simpa using hj) (by omega) g hg hg'
theorem upd (M : Mem w0 S L w) (i : Nat) {a : As} (hi : L[i]? = some a) (hf : Fr (fun k => k ∈ a.fp) w w') (a' : As) (hok : a'.ok w') (hfp : ∀ g ∈ a'.fp, g ∈ a.fp ∨ (w.heap.size ≤ g ∧ g < w'.heap.size)) : Mem w0 S (L.set i a') w' := by
 have hl : i < L.length := (List.getElem?_eq_some_iff.1 hi).1
 have get : ∀ (j : Nat) (b : As), (L.set i a')[j]? = some b → (j = i ∧ b = a') ∨ (j ≠ i ∧ L[j]? = some b) := by
  intro j b hj
  by_cases hji : j = i
  ·subst hji
   rw [List.getElem?_set_self hl] at hj
   exact .inl ⟨rfl, (Option.some.inj hj).symm⟩
  ·rw [List.getElem?_set_ne (Ne.symm hji)] at hj
   exact .inr ⟨hji, hj⟩
 refine ⟨M.fr.step hf (fun k hk hm => ?_), ?_, ?_, ?_⟩
 ·rcases (M.lt i a hi k hm).2 with h | h
  ·omega
  ·exact h
 ·intro j b hj
  rcases get j b hj with ⟨_, rfl⟩ | ⟨hne, hj'⟩
  ·exact hok
  ·exact b.keep (fun g hg hlt => hf.block g hlt (fun hm => M.apart i j a b hi hj' (Ne.symm hne) g hm hg)) (M.ok j b hj')
 ·intro j b hj g hg
  rcases get j b hj with ⟨_, rfl⟩ | ⟨hne, hj'⟩
  ·rcases hfp g hg with h | ⟨h1, h2⟩
   ·obtain ⟨h1, h2⟩ := M.lt i a hi g h
    exact ⟨Nat.lt_of_lt_of_le h1 hf.size, h2⟩
   ·exact ⟨h2, .inl (Nat.le_trans M.fr.size h1)⟩
  ·obtain ⟨h1, h2⟩ := M.lt j b hj' g hg
   exact ⟨Nat.lt_of_lt_of_le h1 hf.size, h2⟩
 ·intro j k b c hj hk hne g hg hg'
  rcases get j b hj with ⟨rfl, rfl⟩ | ⟨hji, hj'⟩
  ·rcases get k c hk with ⟨rfl, rfl⟩ | ⟨hki, hk'⟩
   ·exact hne rfl
   ·rcases hfp g hg with h | ⟨h1, _⟩
    ·exact M.apart j k a c hi hk' hne g h hg'
    ·have := (M.lt k c hk' g hg').1; omega
  ·rcases get k c hk with ⟨rfl, rfl⟩ | ⟨hki, hk'⟩
   ·rcases hfp g hg' with h | ⟨h1, _⟩
    ·exact M.apart k j a b hi hj' (Ne.symm hne) g h hg
    ·have := (M.lt j b hj' g hg).1; omega
   ·exact M.apart j k b c hj' hk' hne g hg hg'
theorem drop (M : Mem w0 S L w) (n : Nat) : Mem w0 S (L.drop n) w := by
 refine ⟨M.fr, ?_, ?_, ?_⟩
 ·intro i a hi; rw [List.getElem?_drop] at hi; exact M.ok _ a hi
 ·intro i a hi; rw [List.getElem?_drop] at hi; exact M.lt _ a hi
 ·intro i j a b hi hj hne; rw [List.getElem?_drop] at hi hj; exact M.apart _ _ a b hi hj (by omega)
theorem pick (M : Mem w0 S L w) (f : List Nat) (hf : f.Nodup) : Mem w0 S (f.map fun i => (L[i]?).getD As.none) w := by
 have get : ∀ (i : Nat) (a : As), (f.map fun i => (L[i]?).getD As.none)[i]? = some a → (∃ k : Nat, f[i]? = some k ∧ L[k]? = some a) ∨ a = As.none := by
  intro i a h
  rw [List.getElem?_map] at h
  cases hk : f[i]? with
  | none => rw [hk] at h; cases h
  | some k =>
   rw [hk] at h
   simp only [Option.map_some, Option.some.injEq] at h
   cases hl : L[k]? with
   | none => rw [hl] at h; exact .inr h.symm
   | some b => rw [hl] at h; simp only [Option.getD_some] at h; subst h; exact .inl ⟨k, rfl, hl⟩
 refine ⟨M.fr, ?_, ?_, ?_⟩
 ·intro i a hi
  rcases get i a hi with ⟨k, _, h⟩ | rfl
  ·exact M.ok k a h
  ·trivial
 ·intro i a hi g hg
  rcases get i a hi with ⟨k, _, h⟩ | rfl
  ·exact M.lt k a h g hg
  ·simp [As.none] at hg
 ·intro i j a b hi hj hne g hg hg'
  rcases get i a hi with ⟨k, h1, h⟩ | rfl
  ·rcases get j b hj with ⟨k', h1', h'⟩ | rfl
   ·have : k ≠ k' := by
     rintro rfl
     obtain ⟨l1, e1⟩ := List.getElem?_eq_some_iff.1 h1
     obtain ⟨l2, e2⟩ := List.getElem?_eq_some_iff.1 h1'
     exact hne ((List.getElem_inj hf).1 (e1.trans e2.symm))
    exact M.apart k k' a b h h' this g hg hg'
   ·simp [As.none] at hg'
  ·simp [As.none] at hg
theorem cell (M : Mem w0 S L w) (i : Nat) {g t off : Nat} {cs : List Value} {u : Value} (hi : L[i]? = some (As.blk g t cs)) (hu : cs[off]? = some u) : Cell w.heap g off u :=
 Blk.c (M.ok i _ hi : Blk w g t cs) off hu
theorem blk (M : Mem w0 S L w) (i : Nat) {g t : Nat} {cs : List Value} (hi : L[i]? = some (As.blk g t cs)) : Blk w g t cs := M.ok i _ hi
theorem mp (M : Mem w0 S L w) (i : Nat) {g : Nat} {K : List (List UInt8 × Value)} (hi : L[i]? = some (As.mp g K)) : Mp w g K := M.ok i _ hi
theorem own (M : Mem w0 S L w) (i : Nat) {base e size n : Nat} {v : Value} {xs : List Value} (hi : L[i]? = some (As.own base e size v n xs)) : w.ownsRow base e size v n xs := M.ok i _ hi
theorem rd (M : Mem w0 AB L w) {A : Option Addr} {n : Nat} {xs : List Value} (h : Rd w0 A n xs) : Rd w A n xs := h.fr0 M.fr
end Mem
theorem CK (w : World) : Mem w AB [] w := Mem.nil w
abbrev pg (g : Nat) : Value := .pointer (some ⟨g, 0, none⟩)
theorem Mem.pk {w0 w : World} {S : Nat → Prop} {L : List As} (M : Mem w0 S L w) (f : List Nat) (hf : f.Nodup := by decide) : Mem w0 S (f.map fun i => (L[i]?).getD As.none) w := M.pick f hf
theorem cp {P : Program} {Q : Exit → Act → World → Prop} {n : Nat} {e : Env} {w w0 : World} {S : Nat → Prop} {L : List As} {ops : Array Oper} {o : Oper} {rest : List Oper} {f : FuncId} {args : Array Value} {v : Value} (M : Mem w0 S L w) (d : Nat) (hd : (o.guard, o.dst, MZ n (some d)) = (none, some d, true)) (hy : YC P e o w f args) (hc : Calls P f args w fun x w' => x = .returned v ∧ Fr0 w w') (k : ∀ w', Mem w0 S L w' → SxL P ops Q n rest ((d, v) :: e) w') : SxL P ops Q n (o :: rest) e w := by
 simp only [Prod.mk.injEq] at hd
 refine CC (some d) (A9 hd.1) hd.2.1 hd.2.2 hy hc ?_
 rintro _ w' ⟨rfl, hf⟩
 exact ⟨_, rfl, k w' (M.step hf)⟩
theorem cl {P : Program} {Q : Exit → Act → World → Prop} {n : Nat} {e : Env} {w : World} {ops : Array Oper} {o : Oper} {rest : List Oper} {f : FuncId} {args : Array Value} {R : Ending → World → Prop} (d : Nat) (hd : (o.guard, o.dst, MZ n (some d)) = (none, some d, true)) (hy : YC P e o w f args) (hc : Calls P f args w R) (k : ∀ x w', R x w' → ∃ v, x = .returned v ∧ SxL P ops Q n rest (e.ins (some d) v) w') : SxL P ops Q n (o :: rest) e w := by
 simp only [Prod.mk.injEq] at hd
 exact CC (some d) (A9 hd.1) hd.2.1 hd.2.2 hy hc k
theorem JL {x : Value} {s : Nat} (h : x.cells.size = s) : ∀ v ∈ [x], v.cells.size = s := fun v hv => by
 rw [List.mem_singleton.1 hv]; exact h
section
variable {P : Program} {Q : Exit → Act → World → Prop} {n : Nat} {e : Env} {w w0 : World} {S : Nat → Prop} {L : List As} {ops : Array Oper} {o : Oper} {rest : List Oper}
theorem BI (M : Mem w0 S L w) {d : Nat} (hw : Wn ops e o) (hd : o.dst = some d) (hn : Nat.blt d n = true) (t : TypeId) (ho : o.op = .alloc t) {z : Value} (zs : List Value) (hz : (P.info? t).map (·.zero) = some (some z)) (hc : z.cells = zs.toArray)
 (k : ∀ g w', w.heap.size ≤ g → Mem w0 S (As.blk g t zs :: L) w' → SxL P ops Q n rest ((d, .pointer (some ⟨g, 0, none⟩)) :: e) w') : SxL P ops Q n (o :: rest) e w := by
 refine CI (some d) hw hd hn (fun ρ hρ => BX t ho z zs hz hc) ?_
 rintro _ w1 ⟨g, rfl, h1, h2, hb, hf⟩
 exact k g w1 h1 (M.push hf _ hb (fun g' hg' => by simp only [As.blk, List.mem_singleton] at hg'; subst hg'; exact ⟨h1, h2⟩))
theorem BD (M : Mem w0 S L w) {d : Nat} (hw : Wn ops e o) (hd : o.dst = some d) (hn : Nat.blt d n = true) (t : TypeId) {x : Operand} (ho : o.op = .box t x) {v : Value} (hx : ev e x = some v) (cs : List Value) (hc : v.cells = cs.toArray)
 (k : ∀ g w', w.heap.size ≤ g → Mem w0 S (As.blk g t cs :: L) w' → SxL P ops Q n rest ((d, .pointer (some ⟨g, 0, none⟩)) :: e) w') : SxL P ops Q n (o :: rest) e w := by
 refine CI (some d) hw hd hn (fun ρ hρ => WZ t x ho cs (by rw [hρ _ _ hx]; exact hc)) ?_
 rintro _ w1 ⟨g, rfl, h1, h2, hb, hf⟩
 exact k g w1 h1 (M.push hf _ hb (fun g' hg' => by simp only [As.blk, List.mem_singleton] at hg'; subst hg'; exact ⟨h1, h2⟩))
theorem Z4 {g : Nat} {t : TypeId} {cs : List Value} {w w' : World} (h : Fr (fun k => k = g) w w') : Fr (fun k => k ∈ (As.blk g t cs).fp) w w' := h.mono fun k _ e => by simp only [As.blk, List.mem_singleton]; exact e
theorem BQ (M : Mem w0 S L w) (i : Nat) (hw : Wn ops e o) (hd : o.dst = none) {ty g off t : Nat} {x y : Operand} {cs cs' : List Value} {v : Value} (ho : o.op = .store ty x y) (hx : ev e x = some (.pointer (some ⟨g, off, none⟩))) (hy : ev e y = some v) (hi : L[i]? = some (As.blk g t cs))
 (hv : v.cells = #[v]) (h1 : v.oneCell' = true) (hsz : (P.info? ty).map (·.size) = some 1) (hl : off < cs.length) (hcs : cs.set off v = cs')
 (k : ∀ w', Mem w0 S (L.set i (As.blk g t cs')) w' → SxL P ops Q n rest e w') : SxL P ops Q n (o :: rest) e w := by
 refine CI none hw hd rfl (fun ρ hρ => DZ ty x y ho g off t cs v (hρ _ _ hx) (hρ _ _ hy) hv (M.blk i hi) hsz hl h1) ?_
 rintro _ w1 ⟨rfl, hb, hf⟩
 subst hcs
 exact k w1 (M.upd i hi (Z4 hf) (As.blk g t _) hb (fun g' hg' => .inl hg'))
theorem B5 (M : Mem w0 S L w) (i : Nat) (hw : Wn ops e o) (hd : o.dst = none) {ty g off t m : Nat} {x y : Operand} {cs cs' new : List Value} (ho : o.op = .store ty x y) (hx : ev e x = some (.pointer (some ⟨g, off, none⟩))) (hy : ev e y = some (.agg new.toArray)) (hi : L[i]? = some (As.blk g t cs))
 (hsz : (P.info? ty).map (·.size) = some m) (hm : new.length = m) (hl : off + m ≤ cs.length) (h1 : ∀ u ∈ new, u.oneCell' = true) (hcs : put cs off new = cs')
 (k : ∀ w', Mem w0 S (L.set i (As.blk g t cs')) w' → SxL P ops Q n rest e w') : SxL P ops Q n (o :: rest) e w := by
 subst hm
 refine CI none hw hd rfl (fun ρ hρ => BP ty x y ho g off t cs new (hρ _ _ hx) (hρ _ _ hy) (M.blk i hi) hsz hl h1) ?_
 rintro _ w1 ⟨rfl, hb, hf⟩
 subst hcs
 exact k w1 (M.upd i hi (Z4 hf) (As.blk g t _) hb (fun g' hg' => .inl hg'))
theorem HN (M : Mem w0 S L w) {d t : Nat} (hw : Wn ops e o) (hd : o.dst = some d) (hn : Nat.blt d n = true) (ho : o.op = .makeMap t none)
 (k : ∀ g w', w.heap.size ≤ g → Mem w0 S (As.mp g [] :: L) w' → SxL P ops Q n rest ((d, .map (some g)) :: e) w') : SxL P ops Q n (o :: rest) e w := by
 refine CI (some d) hw hd hn (fun ρ hρ => eN ho) ?_
 rintro _ w1 ⟨g, rfl, h1, h2, hb, hf⟩
 exact k g w1 h1 (M.push hf _ hb (fun g' hg' => by simp only [As.mp, List.mem_singleton] at hg'; subst hg'; exact ⟨h1, h2⟩))
theorem ES (M : Mem w0 S L w) (i : Nat) (hw : Wn ops e o) (hd : o.dst = none) {t kt el g : Nat} {mp ix x : Operand} {key : List UInt8} {v : Value} {K : List (List UInt8 × Value)} (ho : o.op = .mapUpdate t mp ix x) (hm : ev e mp = some (.map (some g))) (hx : ev e ix = some (str key)) (hv : ev e x = some v) (hu : P.underlying t = some (.map kt el)) (hk : P.underlying kt = some .string)
 (hi : L[i]? = some (As.mp g K)) (k : ∀ w', Mem w0 S (L.set i (As.mp g (CV K key v))) w' → SxL P ops Q n rest e w') : SxL P ops Q n (o :: rest) e w := by
 refine CI none hw hd rfl (fun ρ hρ => G6 ho (hρ _ _ hm) (hρ _ _ hx) (hρ _ _ hv) hu hk (M.mp i hi)) ?_
 rintro _ w1 ⟨rfl, hf, hb⟩
 exact k w1 (M.upd i hi (hf.mono fun k _ e => by simp only [As.mp, List.mem_singleton]; exact e) (As.mp g _) hb (fun g' hg' => .inl hg'))
theorem DH (M : Mem w0 S L w) (i : Nat) (hw : Wn ops e o) (hd : o.dst = none) {t kt el g : Nat} {mp ix x : Operand} {key : List UInt8} {v : Value} {K : List (List UInt8 × Value)} (ho : o.op = .insert t mp ix x) (hm : ev e mp = some (.map (some g))) (hx : ev e ix = some (str key)) (hv : ev e x = some v) (hu : P.underlying t = some (.map kt el)) (hk : P.underlying kt = some .string)
 (hi : L[i]? = some (As.mp g K)) (k : ∀ w', Mem w0 S (L.set i (As.mp g (CV K key v))) w' → SxL P ops Q n rest e w') : SxL P ops Q n (o :: rest) e w := by
 refine CI none hw hd rfl (fun ρ hρ => WY ho (hρ _ _ hm) (hρ _ _ hx) (hρ _ _ hv) hu hk (M.mp i hi)) ?_
 rintro _ w1 ⟨rfl, hf, hb⟩
 exact k w1 (M.upd i hi (hf.mono fun k _ e => by simp only [As.mp, List.mem_singleton]; exact e) (As.mp g _) hb (fun g' hg' => .inl hg'))
theorem AQ {c : Operand} {x y : Code} {b : Bool} (hc : ev e c = some (.bool b)) (h1 : b = true → Sx P x Q n e w) (h2 : b = false → Sx P y Q n e w) : Sx P (Code.cond c x y) Q n e w := by
 cases b
 ·exact DB hc (h2 rfl)
 ·exact DQ hc (h1 rfl)
end
end
section
section
variable {α : Type}
def All (m : Nat) (l : List (List α)) : Prop := ∀ x ∈ l, x.length = m
theorem All.nil {m : Nat} : All m ([] : List (List α)) := fun _ h => by cases h
theorem All.tail {m : Nat} {x : List α} {l : List (List α)} (h : All m (x :: l)) : All m l := fun y hy => h y (List.mem_cons_of_mem _ hy)
theorem All.head {m : Nat} {x : List α} {l : List (List α)} (h : All m (x :: l)) : x.length = m := h x List.mem_cons_self
theorem OQ {m : Nat} {l : List (List α)} (h : All m l) : l.flatten.length = l.length * m := by
 induction l with
 | nil => simp
 | cons x l ih => rw [List.flatten_cons, List.length_append, ih h.tail, h.head, List.length_cons, Nat.add_mul]; omega
theorem aW {m : Nat} {l : List (List α)} (h : All m l) {i : Nat} {x : List α} (hx : l[i]? = some x) : (l.flatten.drop (i * m)).take m = x := by
 induction l generalizing i with
 | nil => simp at hx
 | cons y l ih =>
  cases i with
  | zero =>
   simp only [List.getElem?_cons_zero, Option.some.injEq] at hx
   subst hx
   rw [Nat.zero_mul, List.drop_zero, List.flatten_cons]
   exact List.take_left' h.head
  | succ i =>
   rw [List.flatten_cons, show (i + 1) * m = y.length + i * m from by rw [h.head, Nat.add_mul]; omega, ← List.drop_drop, List.drop_left]
   exact ih h.tail (by simpa using hx)
end
end
section
section
variable {P : Program} {e : Env} {w : World} {o : Oper}
theorem lN {t : Nat} {x i : Operand} {l : List UInt8} {k : IntKind} {a : Nat} (ho : o.op = .slice t x (some i) none none) (hx : ev e x = some (str l)) (hi : ev e i = some (.int k (a : Int))) (ht : P.underlying t = some .string) (ha : a ≤ l.length) : Y P e o w (str (l.drop a)) := fun ρ h => by
 have hs : (ByteArray.mk l.toArray).size = l.length := by show l.toArray.size = _; simp
 have hd : (l.drop a).take (l.length - a) = l.drop a := List.take_of_length_le (by rw [List.length_drop]; omega)
 unfold execOp
 simp [ho, h _ _ hx, h _ _ hi, str, Instr.sliceAt, Instr.slice, run_underlying ht, Instr.sliceBounds, Instr.sliceBound, asIntOf, hs, ha, Lib.extract_eq, hd]
theorem HD {t t' : Nat} {a b : List UInt8} {x y : Operand} (ho : o.op = .binOp .neq t x y t') (hx : ev e x = some (str a)) (hy : ev e y = some (str b)) : Y P e o w (.bool (!decide (a = b))) := fun ρ h => by
 have h1 : ρ x = .string ⟨a.toArray⟩ := h _ _ hx
 have h2 : ρ y = .string ⟨b.toArray⟩ := h _ _ hy
 unfold execOp
 simp [ho, h1, h2, eqGuard_at_string, binOp, Op.stringOp]
 by_cases hab : a = b
 ·subst hab; simp
 ·simp [hab]
end
end
end
end Go.Proofs.YtadgfojhjnkliaaGreatDoor
