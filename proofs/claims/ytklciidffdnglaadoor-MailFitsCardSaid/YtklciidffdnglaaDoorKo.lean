/- The machine that runs closed code: a region that draws its order stands for the model. Over any program. No condition. -/
import Derived.Test.YtklciidffdnglaaDoorKn
import Derived.Orders
namespace Go.Proofs.YtklciidffdnglaaDoor
open Go.RowKit

section
variable {P : Program} {G n : Nat} {call : CallF} {ops : Array Oper} {nx0 : Nat}
/-- What one step of the way is. -/
structure StepI (P : Program) (G n : Nat) (call : CallF) (ops : Array Oper) (nx0 i m : Nat) (o : Oper) (s s' : DS) : Prop where
  put : mPut n s.e o.dst s'.v = some s'.e
  kinds : s'.kd = 0 ∨ s'.kd = 1 ∨ s'.kd = 2 ∨ s'.kd = 3
  off : s'.kd = 3 → s'.v = undef ∧ ∃ g, o.guard = some g ∧ mGuard ops s.e g = some false
  on : s'.kd ≠ 3 → o.guard = none ∨ ∃ g, o.guard = some g ∧ mGuard ops s.e g = some true
  stay : s'.kd ≠ 2 → s'.cur = s.cur ∧ s'.old = s.old ∧ s'.ld = s.ld
  fr : s'.kd ≠ 1 → s'.F = s.F
  still : s'.kd = 0 → dKind P o.op = 0 ∧ (∃ h1 n1, mOp P G call s.e (dH nx0 m s.F s.cur) s.cur.nx o = .ok s'.v h1 n1) ∧ dBack P G call nx0 m o s.e s.F s'.v s.old s.cur = true ∧ s'.lv = ⟨i, m, o, s.e, s.F, s'.v⟩ :: s.lv
  fresh : s'.kd = 1 → dKind P o.op = 1 ∧ ∃ h' n' B, mOp P G call s.e .lf (nx0 + i) o = .ok s'.v h' n' ∧ h'.get (nx0 + i) = some B ∧ s'.F = (i, B) :: s.F
  lvs : s'.kd = 1 ∨ s'.kd = 3 → s'.lv = s.lv
  loud : s'.kd = 2 → mOp P G call s.e (dH nx0 m s.F s.cur) s.cur.nx o = .ok s'.v s'.cur.h s'.cur.nx ∧ s'.cur.mt = Nat.lor s.cur.mt m ∧ s'.cur.lo = some i ∧ s'.old = s.cur :: s.old ∧ (∀ b ∈ s.ld, tb m b = true) ∧
    (∀ l ∈ s.lv, tb m l.i = true ∨ dChk P G call nx0 l.m l.o l.e l.F l.v s'.cur = true) ∧ s'.lv = s.lv.filter (fun l => !tb m l.i) ∧ s'.ld = i :: s.ld
theorem dStep_inv {i m : Nat} {o : Oper} {s s' : DS} (h : dStep P G n call ops nx0 i m o s = some s') : StepI P G n call ops nx0 i m o s s' := by
  have gd : ∀ b, dGuard ops s.e o = some b → (b = false → ∃ g, o.guard = some g ∧ mGuard ops s.e g = some false) ∧ (b = true → o.guard = none ∨ ∃ g, o.guard = some g ∧ mGuard ops s.e g = some true) := fun b hb => by
    unfold dGuard at hb
    cases hg : o.guard with
    | none => rw [hg, oo_none] at hb; injection hb with hb; subst hb; exact ⟨fun h => by (cases h), fun _ => .inl rfl⟩
    | some g =>
      rw [hg, oo_some] at hb
      cases b with
      | true => exact ⟨fun h => by (cases h), fun _ => .inr ⟨g, rfl, hb⟩⟩
      | false => exact ⟨fun _ => ⟨g, rfl, hb⟩, fun h => by (cases h)⟩
  unfold dStep at h
  split at h
  · rename_i hb
    obtain ⟨e', hp, h⟩ := oo_inv h (by simp)
    injection h with h; subst h
    exact ⟨hp, by simp, fun _ => ⟨rfl, (gd _ hb).1 rfl⟩, fun hh => absurd rfl hh, fun _ => ⟨rfl, rfl, rfl⟩, fun _ => rfl, fun hh => by (cases hh), fun hh => by (cases hh), fun _ => rfl, fun hh => by (cases hh)⟩
  · rename_i hb
    have hon := (gd _ hb).2 rfl
    split at h
    · rename_i hk
      unfold dStill at h
      split at h
      · rename_i v h1 n1 hm
        obtain ⟨hback, h⟩ := bo_inv h (by simp)
        obtain ⟨e', hp, h⟩ := oo_inv h (by simp)
        injection h with h; subst h
        exact ⟨hp, by simp, fun hh => by (cases hh), fun _ => hon, fun _ => ⟨rfl, rfl, rfl⟩, fun _ => rfl, fun _ => ⟨hk, ⟨h1, n1, hm⟩, hback, rfl⟩, fun hh => by (cases hh), fun hh => by (rcases hh with hh | hh <;> cases hh), fun hh => by (cases hh)⟩
      · cases h
    · rename_i hk
      unfold dFresh at h
      split at h
      · rename_i v h1 n1 hm
        obtain ⟨B, hB, h⟩ := oo_inv h (by simp)
        obtain ⟨e', hp, h⟩ := oo_inv h (by simp)
        injection h with h; subst h
        exact ⟨hp, by simp, fun hh => by (cases hh), fun _ => hon, fun _ => ⟨rfl, rfl, rfl⟩, fun hh => absurd rfl hh, fun hh => by (cases hh), fun _ => ⟨hk, h1, n1, B, hm, hB, rfl⟩, fun _ => rfl, fun hh => by (cases hh)⟩
      · cases h
    · unfold dLoud at h
      split at h
      · rename_i v h1 n1 hm
        obtain ⟨hc, h⟩ := bo_inv h (by simp)
        obtain ⟨e', hp, h⟩ := oo_inv h (by simp)
        injection h with h; subst h
        simp only [Bool.and_eq_true] at hc
        exact ⟨hp, by simp, fun hh => by (cases hh), fun _ => hon, fun hh => absurd rfl hh, fun _ => rfl, fun hh => by (cases hh), fun hh => by (cases hh), fun hh => by (rcases hh with hh | hh <;> cases hh),
          fun _ => ⟨hm, rfl, rfl, rfl, fun b hb => List.all_eq_true.1 hc.1 b hb, fun l hl => by simpa using List.all_eq_true.1 hc.2 l hl, rfl, rfl⟩⟩
      · cases h
  · cases h
theorem dGo_inv : ∀ (l : List (Oper × Nat)) (i : Nat) {s sN : DS}, dGo P G n call ops nx0 l i s = some sN → ∃ st : Nat → DS, st 0 = s ∧ st l.length = sN ∧ ∀ j o m, l[j]? = some (o, m) → StepI P G n call ops nx0 (i + j) m o (st j) (st (j + 1))
  | [], i, s, sN, h => by
    injection h with h; subst h
    exact ⟨fun _ => s, rfl, rfl, fun j o m hj => by simp at hj⟩
  | p :: l, i, s, sN, h => by
    obtain ⟨s', h1, h2⟩ := oo_inv (show oo (dStep P G n call ops nx0 i p.2 p.1 s) none (fun s' => dGo P G n call ops nx0 l (i + 1) s') = some sN from h) (by simp)
    obtain ⟨st, h3, h4, h5⟩ := dGo_inv l (i + 1) h2
    refine ⟨fun j => match j with | 0 => s | j + 1 => st j, rfl, h4, fun j o m hj => ?_⟩
    cases j with
    | zero =>
      simp only [List.getElem?_cons_zero, Option.some.injEq] at hj
      subst hj
      show StepI P G n call ops nx0 i m o s (st 0)
      rw [h3]
      exact dStep_inv h1
    | succ j =>
      rw [List.getElem?_cons_succ] at hj
      have := h5 j o m hj
      rw [show i + (j + 1) = i + 1 + j by omega]
      exact this
theorem lkm_mem {t : Nat} : ∀ {l : List Nat}, t ∈ l → tb (lkm l) t = true
  | [], h => by cases h
  | x :: l, h => by
    show tb (Nat.lor (Nat.pow 2 x) (lkm l)) t = true
    rw [tb_lor, tb_pow, Bool.or_eq_true, decide_eq_true_eq]
    rcases List.mem_cons.1 h with h | h
    · exact .inl h.symm
    · exact .inr (lkm_mem h)
theorem dApart_ok {d1 d2 : Option Nat} {l1 l2 : List Nat} {ord : Bool} (h : dApart d1 d2 (lkm l1) (lkm l2) ord = true) : (∀ d, d1 = some d → d2 ≠ some d) ∧ (ord = true ∨ (∀ d, d1 = some d → d ∉ l2) ∧ (∀ d, d2 = some d → d ∉ l1)) := by
  have nm : ∀ (l : List Nat) t, tb (lkm l) t = false → t ∉ l := fun l t ht hm => by rw [lkm_mem hm] at ht; cases ht
  unfold dApart at h
  split at h
  · rename_i a b
    cases hab : Nat.beq a b with
    | true => rw [hab] at h; cases h
    | false =>
      rw [hab, bo_false] at h
      have hne : a ≠ b := fun e => by subst e; simp at hab
      refine ⟨fun d hd hd2 => hne (by injection hd with hd; injection hd2 with hd2; rw [hd, hd2]), ?_⟩
      cases ord with
      | true => exact .inl rfl
      | false =>
        rw [bo_false] at h
        cases h1 : tb (lkm l2) a with
        | true => rw [h1] at h; cases h
        | false =>
          rw [h1, bo_false] at h
          cases h2 : tb (lkm l1) b with
          | true => rw [h2] at h; cases h
          | false => exact .inr ⟨fun d hd => by injection hd with hd; subst hd; exact nm _ _ h1, fun d hd => by injection hd with hd; subst hd; exact nm _ _ h2⟩
  · rename_i a
    refine ⟨fun d _ hd2 => by (cases hd2), ?_⟩
    cases ord with
    | true => exact .inl rfl
    | false =>
      rw [bo_false] at h
      cases h1 : tb (lkm l2) a with
      | true => rw [h1] at h; cases h
      | false => exact .inr ⟨fun d hd => by injection hd with hd; subst hd; exact nm _ _ h1, fun d hd => by (cases hd)⟩
  · rename_i b
    refine ⟨fun d hd _ => by (cases hd), ?_⟩
    cases ord with
    | true => exact .inl rfl
    | false =>
      rw [bo_false] at h
      cases h2 : tb (lkm l1) b with
      | true => rw [h2] at h; cases h
      | false => exact .inr ⟨fun d hd => by (cases hd), fun d hd => by injection hd with hd; subst hd; exact nm _ _ h2⟩
  · exact ⟨fun d hd _ => by (cases hd), .inr ⟨fun d hd => by (cases hd), fun d hd => by (cases hd)⟩⟩
theorem dStat_inv : ∀ (l : List (Oper × Nat)) (i : Nat) (prev : List (Nat × Option Nat × Nat)), dStat ops l i prev = true →
    (∀ j o m, l[j]? = some (o, m) → (∀ ed ∈ o.after, Region.binds .any ed = true → ed.on < i + j) ∧ (∀ p ∈ prev, dApart p.2.1 o.dst p.2.2 (lkm (o.looksAt ops)) (tb m p.1) = true)) ∧
    ∀ j k oj mj ok mk, j < k → l[j]? = some (oj, mj) → l[k]? = some (ok, mk) → dApart oj.dst ok.dst (lkm (oj.looksAt ops)) (lkm (ok.looksAt ops)) (tb mk (i + j)) = true
  | [], i, prev, _ => ⟨fun j o m hj => by simp at hj, fun j k oj mj ok mk _ hj => by simp at hj⟩
  | p :: l, i, prev, h => by
    obtain ⟨h1, h⟩ := bo_inv (show bo (p.1.after.toList.all (fun ed => !Region.binds .any ed || Nat.blt ed.on i)) (bo (dStatO prev p.2 (lkm (p.1.looksAt ops)) p.1.dst) (dStat ops l (i + 1) ((i, p.1.dst, lkm (p.1.looksAt ops)) :: prev)) false) false = true from h) (by simp)
    obtain ⟨h2, h⟩ := bo_inv h (by simp)
    obtain ⟨h3, h4⟩ := dStat_inv l (i + 1) _ h
    refine ⟨fun j o m hj => ?_, fun j k oj mj ok mk hjk hj hk => ?_⟩
    · cases j with
      | zero =>
        simp only [List.getElem?_cons_zero, Option.some.injEq] at hj
        subst hj
        refine ⟨fun ed hed hb => ?_, fun q hq => List.all_eq_true.1 h2 q hq⟩
        have := List.all_eq_true.1 h1 ed (by simpa using hed)
        rw [hb] at this
        simpa using blt_lt (by simpa using this)
      | succ j =>
        rw [List.getElem?_cons_succ] at hj
        obtain ⟨h5, h6⟩ := h3 j o m hj
        exact ⟨fun ed hed hb => by have := h5 ed hed hb; omega, fun q hq => h6 q (by simp [hq])⟩
    · cases k with
      | zero => omega
      | succ k =>
        rw [List.getElem?_cons_succ] at hk
        cases j with
        | zero =>
          simp only [List.getElem?_cons_zero, Option.some.injEq] at hj
          subst hj
          exact (h3 k ok mk hk).2 (i, oj.dst, lkm (oj.looksAt ops)) (by simp)
        | succ j =>
          rw [List.getElem?_cons_succ] at hj
          have := h4 j k oj mj ok mk (by omega) hj hk
          rw [show i + (j + 1) = i + 1 + j by omega]
          exact this
/-- All that is known of a region's way. -/
structure Pl (P : Program) (G n : Nat) (call : CallF) (ops : Array Oper) (nx0 : Nat) (ms : Nat → Nat) (st : Nat → DS) : Prop where
  step : ∀ i o, ops[i]? = some o → StepI P G n call ops nx0 i (ms i) o (st i) (st (i + 1))
  back : ∀ i o, ops[i]? = some o → ∀ ed ∈ o.after, Region.binds .any ed = true → ed.on < i
  pair : ∀ i j oi oj, i < j → ops[i]? = some oi → ops[j]? = some oj → (∀ d, oi.dst = some d → oj.dst ≠ some d) ∧ (tb (ms j) i = true ∨ (∀ d, oi.dst = some d → d ∉ oj.looksAt ops) ∧ (∀ d, oj.dst = some d → d ∉ oi.looksAt ops))
  clos : ∀ i o j, ops[i]? = some o → tb (ms i) j = true → ∃ ed ∈ o.after, Region.binds .any ed = true ∧ (ed.on = j ∨ tb (ms ed.on) j = true)
  lo0 : (st 0).cur.lo = none
  F0 : (st 0).F = []
  ld0 : (st 0).ld = []
  lv0 : (st 0).lv = []
variable {ms : Nat → Nat} {st : Nat → DS}
theorem pl_of {e0 : Tb Value} {h0 : Hp} {sN : DS} (h1 : dStat ops (ops.toList.zip (masks ops.toList [])) 0 [] = true) (h2 : dGo P G n call ops nx0 (ops.toList.zip (masks ops.toList [])) 0 ⟨e0, [], ⟨h0, nx0 + ops.toList.length, 0, none⟩, [], [], [], undef, 3⟩ = some sN) :
    ∃ ms st, Pl P G n call ops nx0 ms st ∧ st 0 = ⟨e0, [], ⟨h0, nx0 + ops.toList.length, 0, none⟩, [], [], [], undef, 3⟩ ∧ st ops.size = sN := by
  have mlen : ∀ (l : List Oper) (acc : List Nat), (masks l acc).length = acc.length + l.length := fun l => by
    induction l with
    | nil => intro acc; rfl
    | cons o l ih => intro acc; rw [masks_cons, ih]; simp; omega
  obtain ⟨st, h3, h4, h5⟩ := dGo_inv _ 0 h2
  obtain ⟨h6, h7⟩ := dStat_inv _ 0 [] h1
  have hlen : (ops.toList.zip (masks ops.toList [])).length = ops.size := by
    rw [List.length_zip, mlen]; simp
  have hget : ∀ i o, ops[i]? = some o → (ops.toList.zip (masks ops.toList []))[i]? = some (o, ((masks ops.toList [])[i]?).getD 0) := fun i o ho => by
    have hi := (Array.getElem?_eq_some_iff.1 ho).1
    have hm : i < (masks ops.toList []).length := by rw [mlen]; simpa using hi
    rw [List.getElem?_zip_eq_some]
    exact ⟨by simpa using ho, by rw [List.getElem?_eq_getElem hm]; rfl⟩
  rw [hlen] at h4
  refine ⟨fun i => ((masks ops.toList [])[i]?).getD 0, st, ⟨fun i o ho => ?_, fun i o ho ed hed hb => ?_, fun i j oi oj hij hi hj => ?_, fun i o j ho ht => ?_, by rw [h3], by rw [h3], by rw [h3], by rw [h3]⟩, h3, h4⟩
  · have := h5 i o _ (hget i o ho)
    rwa [Nat.zero_add] at this
  · have := (h6 i o _ (hget i o ho)).1 ed hed hb
    omega
  · have := h7 i j oi _ oj _ hij (hget i oi hi) (hget j oj hj)
    rw [Nat.zero_add] at this
    exact dApart_ok this
  · obtain ⟨acc', ha, hm⟩ := masks_get ops.toList [] i o (by simpa using ho)
    simp only [List.length_nil, Nat.zero_add] at ha hm
    rw [hm, Option.getD_some] at ht
    obtain ⟨ed, h8, h9, h10⟩ := maskE_bit ht
    refine ⟨ed, by simpa using h8, h9, ?_⟩
    rcases h10 with h10 | ⟨m, h10, h11⟩
    · exact .inl h10
    · right
      rw [ha] at h10
      split at h10
      · rw [h10]; exact h11
      · cases h10

/-- Listed. -/
def Ls (listed : Array Bool) (i : Nat) : Prop := listed.getD i false = true
def Closed (ops : Array Oper) (S : Nat → Prop) : Prop := ∀ j o, ops[j]? = some o → S j → ∀ ed ∈ o.after, Region.binds .any ed = true → S ed.on
theorem Pl.before (pl : Pl P G n call ops nx0 ms st) {S : Nat → Prop} (hc : Closed ops S) : ∀ (i : Nat) (o : Oper), ops[i]? = some o → (∀ ed ∈ o.after, Region.binds .any ed = true → S ed.on) → ∀ j, tb (ms i) j = true → S j := by
  intro i
  induction i using Nat.strongRecOn with
  | _ i ih =>
    intro o ho hp j hj
    obtain ⟨ed, h1, h2, h3⟩ := pl.clos i o j ho hj
    have hS := hp ed h1 h2
    rcases h3 with h3 | h3
    · rw [← h3]; exact hS
    · have hlt := pl.back i o ho ed h1 h2
      have hlt2 : ed.on < ops.size := by have := (Array.getElem?_eq_some_iff.1 ho).1; omega
      exact ih ed.on hlt _ (Array.getElem?_eq_getElem hlt2) (fun ed2 h4 h5 => hc ed.on _ (Array.getElem?_eq_getElem hlt2) hS ed2 h4 h5) j h3
theorem Pl.env (pl : Pl P G n call ops nx0 ms st) (t : Nat) : ∀ i, i ≤ ops.size → (∃ j oj, j < i ∧ ops[j]? = some oj ∧ oj.dst = some t ∧ (st i).e.get t = some (st (j + 1)).v) ∨ ((∀ j oj, j < i → ops[j]? = some oj → oj.dst ≠ some t) ∧ (st i).e.get t = (st 0).e.get t)
  | 0, _ => .inr ⟨fun j oj hj => by omega, rfl⟩
  | i + 1, hi => by
    have ho := Array.getElem?_eq_getElem (show i < ops.size by omega)
    have hp := (pl.step i _ ho).put
    have hi' := pl.env t i (by omega)
    cases hd : (ops[i]'(by omega)).dst with
    | none =>
      rw [hd] at hp
      injection hp with hp
      rw [← hp]
      rcases hi' with ⟨j, oj, h1, h2, h3, h4⟩ | ⟨h1, h2⟩
      · exact .inl ⟨j, oj, by omega, h2, h3, h4⟩
      · refine .inr ⟨fun j oj hj hoj => ?_, h2⟩
        by_cases e : j = i
        · subst e; rw [ho] at hoj; injection hoj with hoj; rw [← hoj, hd]; simp
        · exact h1 j oj (by omega) hoj
    | some d =>
      rw [hd] at hp
      rw [mPut_some] at hp
      obtain ⟨_, hp⟩ := bo_inv hp (by simp)
      injection hp with hp
      rw [← hp, Tb.get_put]
      by_cases e : t = d
      · subst e
        exact .inl ⟨i, _, by omega, ho, hd, by rw [if_pos rfl]⟩
      · rw [if_neg e]
        rcases hi' with ⟨j, oj, h1, h2, h3, h4⟩ | ⟨h1, h2⟩
        · exact .inl ⟨j, oj, by omega, h2, h3, h4⟩
        · refine .inr ⟨fun j oj hj hoj => ?_, h2⟩
          by_cases e2 : j = i
          · subst e2; rw [ho] at hoj; injection hoj with hoj; rw [← hoj, hd]; intro h; injection h with h; exact e h.symm
          · exact h1 j oj (by omega) hoj
theorem Pl.cur (pl : Pl P G n call ops nx0 ms st) {c : Nat} : ∀ i, c ≤ i → i ≤ ops.size → (∀ e, c ≤ e → e < i → (st (e + 1)).kd ≠ 2) → (st i).cur = (st c).cur := by
  intro i
  induction i with
  | zero => intro h _ _; obtain rfl : c = 0 := by omega
            rfl
  | succ i ih =>
    intro h hi hl
    by_cases e : c = i + 1
    · rw [e]
    · rw [((pl.step i _ (Array.getElem?_eq_getElem (show i < ops.size by omega))).stay (hl i (by omega) (by omega))).1]
      exact ih (by omega) (by omega) (fun e h1 h2 => hl e h1 (by omega))
theorem Pl.ld (pl : Pl P G n call ops nx0 ms st) {b : Nat} (hk : (st (b + 1)).kd = 2) : ∀ i, b < i → i ≤ ops.size → b ∈ (st i).ld := by
  intro i
  induction i with
  | zero => intro h _; omega
  | succ i ih =>
    intro h hi
    have hs := pl.step i _ (Array.getElem?_eq_getElem (show i < ops.size by omega))
    by_cases e : b = i
    · subst e
      rw [(hs.loud hk).2.2.2.2.2.2.2]; simp
    · have := ih (by omega) (by omega)
      by_cases hk2 : (st (i + 1)).kd = 2
      · rw [(hs.loud hk2).2.2.2.2.2.2.2]; simp [this]
      · rw [(hs.stay hk2).2.2]; exact this
/-- Those that change memory come one behind the other. -/
theorem Pl.chain (pl : Pl P G n call ops nx0 ms st) {b i : Nat} (hb : (st (b + 1)).kd = 2) (hi : (st (i + 1)).kd = 2) (hlt : b < i) (hN : i < ops.size) : tb (ms i) b = true :=
  ((pl.step i _ (Array.getElem?_eq_getElem hN)).loud hi).2.2.2.2.1 b (pl.ld hb i hlt (by omega))
theorem Pl.Fs (pl : Pl P G n call ops nx0 ms st) {j : Nat} {B : Bl} : ∀ i, i ≤ ops.size → (j, B) ∈ (st i).F → j < i ∧ (st (j + 1)).kd = 1 ∧ (st (j + 1)).F.head? = some (j, B) := by
  intro i
  induction i with
  | zero => intro _ h; rw [pl.F0] at h; cases h
  | succ i ih =>
    intro hi h
    have hs := pl.step i _ (Array.getElem?_eq_getElem (show i < ops.size by omega))
    by_cases hk : (st (i + 1)).kd = 1
    · obtain ⟨_, h', n', B', _, _, hF⟩ := hs.fresh hk
      rw [hF] at h
      rcases List.mem_cons.1 h with h | h
      · injection h with h1 h2; subst h1; subst h2
        exact ⟨by omega, hk, by rw [hF]; rfl⟩
      · obtain ⟨h1, h2⟩ := ih (by omega) h
        exact ⟨by omega, h2⟩
    · rw [hs.fr hk] at h
      obtain ⟨h1, h2⟩ := ih (by omega) h
      exact ⟨by omega, h2⟩
/-- The operation yields its value in this memory too. -/
def Ck (P : Program) (G : Nat) (call : CallF) (nx0 : Nat) (ms : Nat → Nat) (st : Nat → DS) (i : Nat) (o : Oper) (sn : Snap) : Prop := ∃ h1 n1, mOp P G call (st i).e (dH nx0 (ms i) (st i).F sn) sn.nx o = .ok (st (i + 1)).v h1 n1
theorem dChk_ok {m : Nat} {o : Oper} {e : Tb Value} {F : List (Nat × Bl)} {v : Value} {sn : Snap} (h : dChk P G call nx0 m o e F v sn = true) : ∃ h1 n1, mOp P G call e (dH nx0 m F sn) sn.nx o = .ok v h1 n1 := by
  unfold dChk at h
  cases hq : mOp P G call e (dH nx0 m F sn) sn.nx o with
  | bad => rw [hq] at h; cases h
  | ok u h1 n1 =>
    rw [hq] at h
    rw [veq_ok h]
    exact ⟨h1, n1, rfl⟩
theorem Pl.backs (pl : Pl P G n call ops nx0 ms st) {i : Nat} {o : Oper} : ∀ c, c ≤ ops.size → dBack P G call nx0 (ms i) o (st i).e (st i).F (st (i + 1)).v (st c).old (st c).cur = true → Ck P G call nx0 ms st i o (st c).cur →
    (∀ b, b < c → (st (b + 1)).kd = 2 → (∀ e, b < e → e < c → (st (e + 1)).kd = 2 → tb (ms i) e = false) → Ck P G call nx0 ms st i o (st (b + 1)).cur) ∧
    ((∀ e, e < c → (st (e + 1)).kd = 2 → tb (ms i) e = false) → Ck P G call nx0 ms st i o (st 0).cur) := by
  intro c
  induction c with
  | zero => intro _ _ hc; exact ⟨fun b hb => by omega, fun _ => hc⟩
  | succ c ih =>
    intro hN hb hc
    have hs := pl.step c _ (Array.getElem?_eq_getElem (show c < ops.size by omega))
    by_cases hk : (st (c + 1)).kd = 2
    · obtain ⟨_, _, hlo, hold, _⟩ := hs.loud hk
      rw [hold] at hb
      have hb : oo (st (c + 1)).cur.lo true (fun e0 => bo (tb (ms i) e0) true (bo (dChk P G call nx0 (ms i) o (st i).e (st i).F (st (i + 1)).v (st c).cur) (dBack P G call nx0 (ms i) o (st i).e (st i).F (st (i + 1)).v (st c).old (st c).cur) false)) = true := hb
      rw [hlo, oo_some] at hb
      cases ht : tb (ms i) c with
      | true =>
        refine ⟨fun b hbc hkb hno => ?_, fun hno => ?_⟩
        · by_cases e : b = c
          · subst e; exact hc
          · have := hno c (by omega) (by omega) hk
            rw [ht] at this; cases this
        · have := hno c (by omega) hk
          rw [ht] at this; cases this
      | false =>
        rw [ht, bo_false] at hb
        obtain ⟨h1, h2⟩ := bo_inv hb (by simp)
        obtain ⟨h3, h4⟩ := ih (by omega) h2 (dChk_ok h1)
        refine ⟨fun b hbc hkb hno => ?_, fun hno => h4 fun e he => hno e (by omega)⟩
        by_cases e : b = c
        · subst e; exact hc
        · exact h3 b (by omega) hkb (fun e h5 h6 => hno e h5 (by omega))
    · obtain ⟨hcur, hold, _⟩ := hs.stay hk
      rw [hcur, hold] at hb
      rw [hcur] at hc
      obtain ⟨h3, h4⟩ := ih (by omega) hb hc
      refine ⟨fun b hbc hkb hno => ?_, fun hno => h4 fun e he => hno e (by omega)⟩
      by_cases e : b = c
      · subst e; exact absurd hkb hk
      · exact h3 b (by omega) hkb (fun e h5 h6 => hno e h5 (by omega))
theorem Pl.lives (pl : Pl P G n call ops nx0 ms st) {i : Nat} {o : Oper} (ho : ops[i]? = some o) (hk : (st (i + 1)).kd = 0) : ∀ c, i < c → c ≤ ops.size →
    ((⟨i, ms i, o, (st i).e, (st i).F, (st (i + 1)).v⟩ : Live) ∈ (st c).lv ∨ ∃ e, i < e ∧ e < c ∧ (st (e + 1)).kd = 2 ∧ tb (ms e) i = true) ∧
    ∀ b, i < b → b < c → (st (b + 1)).kd = 2 → (∀ e, i < e → e ≤ b → (st (e + 1)).kd = 2 → tb (ms e) i = false) → Ck P G call nx0 ms st i o (st (b + 1)).cur := by
  intro c
  induction c with
  | zero => intro h; omega
  | succ c ih =>
    intro hic hN
    have hs := pl.step c _ (Array.getElem?_eq_getElem (show c < ops.size by omega))
    by_cases e : c = i
    · subst e
      have hs := pl.step c o ho
      exact ⟨.inl (by rw [(hs.still hk).2.2.2]; simp), fun b h1 h2 => by omega⟩
    · obtain ⟨h1, h2⟩ := ih (by omega) (by omega)
      by_cases hk2 : (st (c + 1)).kd = 2
      · obtain ⟨_, _, _, _, _, hchk, hlv, _⟩ := hs.loud hk2
        refine ⟨?_, fun b h3 h4 h5 h6 => ?_⟩
        · rcases h1 with h1 | ⟨e, h1⟩
          · cases ht : tb (ms c) i with
            | true => exact .inr ⟨c, by omega, by omega, hk2, ht⟩
            | false => left; rw [hlv, List.mem_filter]; exact ⟨h1, by simp [ht]⟩
          · exact .inr ⟨e, h1.1, by omega, h1.2.2⟩
        · by_cases eb : b = c
          · subst eb
            rcases h1 with h1 | ⟨e, h7, h8, h9, h10⟩
            · rcases hchk _ h1 with h11 | h11
              · have := h6 b (by omega) (Nat.le_refl _) hk2
                rw [this] at h11; cases h11
              · exact dChk_ok h11
            · have := h6 e h7 (by omega) h9
              rw [this] at h10; cases h10
          · exact h2 b h3 (by omega) h5 h6
      · have hlv : (st c).lv ⊆ (st (c + 1)).lv := by
          rcases hs.kinds with h3 | h3 | h3 | h3
          · rw [(hs.still h3).2.2.2]; exact fun x hx => by simp [hx]
          · rw [hs.lvs (.inl h3)]; exact fun x hx => hx
          · exact absurd h3 hk2
          · rw [hs.lvs (.inr h3)]; exact fun x hx => hx
        refine ⟨?_, fun b h3 h4 h5 h6 => ?_⟩
        · rcases h1 with h1 | ⟨e, h1⟩
          · exact .inl (hlv h1)
          · exact .inr ⟨e, h1.1, by omega, h1.2.2⟩
        · by_cases eb : b = c
          · subst eb; exact absurd h5 hk2
          · exact h2 b h3 (by omega) h5 h6
/-- Which memory it is, by the operations that are done. -/
def SnapOf (ops : Array Oper) (st : Nat → DS) (S : Nat → Prop) (sn : Snap) : Prop := (sn = (st 0).cur ∧ ∀ b, b < ops.size → S b → (st (b + 1)).kd ≠ 2) ∨ ∃ b, b < ops.size ∧ S b ∧ (st (b + 1)).kd = 2 ∧ sn = (st (b + 1)).cur ∧ ∀ b', b' < ops.size → S b' → (st (b' + 1)).kd = 2 → b' ≤ b
theorem Pl.check (pl : Pl P G n call ops nx0 ms st) {S : Nat → Prop} (hc : Closed ops S) {i : Nat} {o : Oper} (ho : ops[i]? = some o) (hk : (st (i + 1)).kd = 0) (hS : ¬ S i) (hpre : ∀ ed ∈ o.after, Region.binds .any ed = true → S ed.on) {sn : Snap} (hsn : SnapOf ops st S sn) : Ck P G call nx0 ms st i o sn := by
  have hiN := (Array.getElem?_eq_some_iff.1 ho).1
  have hbef := pl.before hc i o ho hpre
  have hs := pl.step i o ho
  obtain ⟨_, hcan, hback, _⟩ := hs.still hk
  have hb := pl.backs i (by omega) hback hcan
  have nb : ∀ e, ¬ S e → tb (ms i) e = false := fun e he => by
    cases ht : tb (ms i) e with
    | false => rfl
    | true => exact absurd (hbef e ht) he
  rcases hsn with ⟨rfl, hno⟩ | ⟨b, hbN, hSb, hkb, rfl, hmax⟩
  · exact hb.2 fun e he hke => nb e fun hh => hno e (by omega) hh hke
  · have hne : b ≠ i := fun e => by subst e; exact hS hSb
    by_cases hlt : b < i
    · exact hb.1 b hlt hkb fun e h1 h2 h3 => nb e fun hh => by have := hmax e (by omega) hh h3; omega
    · refine (pl.lives ho hk ops.size hiN (Nat.le_refl _)).2 b (by omega) hbN hkb fun e h1 h2 h3 => ?_
      have hSe : S e := by
        by_cases e2 : e = b
        · rw [e2]; exact hSb
        · exact pl.before hc b _ (Array.getElem?_eq_getElem hbN) (hc b _ (Array.getElem?_eq_getElem hbN) hSb) e (pl.chain h3 hkb (by omega) hbN)
      cases ht : tb (ms e) i with
      | false => rfl
      | true => exact absurd (pl.before hc e _ (Array.getElem?_eq_getElem (show e < ops.size by omega)) (hc e _ (Array.getElem?_eq_getElem (show e < ops.size by omega)) hSe) i ht) hS
end
end Go.Proofs.YtklciidffdnglaaDoor
