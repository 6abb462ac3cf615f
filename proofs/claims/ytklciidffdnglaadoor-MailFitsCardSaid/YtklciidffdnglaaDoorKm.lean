/- The machine that runs closed code: a region that draws its order. What it does, and what its steps are. Over any program. No condition. -/
import Derived.Test.YtklciidffdnglaaDoorKl
namespace Go.Proofs.YtklciidffdnglaaDoor
open Go.RowKit

/-- Two values are one. -/
noncomputable def onEq : Option Nat → Option Nat → Bool
  | none, none => true
  | some a, some b => Nat.beq a b
  | _, _ => false
noncomputable def oaEq : Option Addr → Option Addr → Bool
  | none, none => true
  | some ⟨a, i, s⟩, some ⟨b, j, t⟩ => bo (Nat.beq a b) (bo (Nat.beq i j) (onEq s t) false) false
  | _, _ => false
noncomputable def veq1 (ih : List Value → List Value → Bool) : Value → Value → Bool
  | .bool a, .bool b => a == b
  | .int k a, .int k' b => bo (Nat.beq (ikn k) (ikn k')) (iEq a b) false
  | .string a, .string b => byEq a.data.toList b.data.toList
  | .pointer a, .pointer b => oaEq a b
  | .slice a n c, .slice b m d => bo (oaEq a b) (bo (Nat.beq n m) (Nat.beq c d) false) false
  | .map a, .map b => onEq a b
  | .nilFunc, .nilFunc => true
  | .nilIface, .nilIface => true
  | .agg ⟨a⟩, .agg ⟨b⟩ => ih a b
  | .tuple ⟨a⟩, .tuple ⟨b⟩ => ih a b
  | .iface t a, .iface u b => bo (Nat.beq t u) (ih [a] [b]) false
  | .func (.func f) ⟨a⟩ ⟨b⟩, .func (.func g) ⟨c⟩ ⟨d⟩ => bo (Nat.beq f g) (bo (ih a c) (ih b d) false) false
  | _, _ => false
noncomputable def veqL (ih : List Value → List Value → Bool) : List Value → List Value → Bool
  | [], [] => true
  | x :: xs, y :: ys => bo (veq1 ih x y) (ih xs ys) false
  | _, _ => false
noncomputable def veqN (n : Nat) : List Value → List Value → Bool :=
  @Nat.rec (fun _ => List Value → List Value → Bool) (fun _ _ => false) (fun _ ih => veqL ih) n
theorem onEq_ok {a b : Option Nat} (h : onEq a b = true) : a = b := by
  unfold onEq at h
  split at h
  · rfl
  · rw [Nat.eq_of_beq_eq_true h]
  · cases h
theorem oaEq_ok {a b : Option Addr} (h : oaEq a b = true) : a = b := by
  unfold oaEq at h
  split at h
  · rfl
  · obtain ⟨h1, h⟩ := bo_inv h (by simp)
    obtain ⟨h2, h⟩ := bo_inv h (by simp)
    rw [Nat.eq_of_beq_eq_true h1, Nat.eq_of_beq_eq_true h2, onEq_ok h]
  · cases h
theorem veq1_ok {ih : List Value → List Value → Bool} (hih : ∀ xs ys, ih xs ys = true → xs = ys) {x y : Value} (h : veq1 ih x y = true) : x = y := by
  unfold veq1 at h
  split at h
  · rw [eq_of_beq h]
  · obtain ⟨h1, h⟩ := bo_inv h (by simp)
    rw [iEq_ok] at h
    rw [ikn_inj h1, eq_of_beq h]
  · rename_i a b
    rw [byEq_ok] at h
    have : a.data.toList = b.data.toList := eq_of_beq h
    obtain ⟨⟨d⟩⟩ := a; obtain ⟨⟨d'⟩⟩ := b
    simp only at this; subst this; rfl
  · rw [oaEq_ok h]
  · obtain ⟨h1, h⟩ := bo_inv h (by simp)
    obtain ⟨h2, h⟩ := bo_inv h (by simp)
    rw [oaEq_ok h1, Nat.eq_of_beq_eq_true h2, Nat.eq_of_beq_eq_true h]
  · rw [onEq_ok h]
  · rfl
  · rfl
  · rw [hih _ _ h]
  · rw [hih _ _ h]
  · obtain ⟨h1, h⟩ := bo_inv h (by simp)
    have := hih _ _ h
    injection this with this
    rw [Nat.eq_of_beq_eq_true h1, this]
  · obtain ⟨h1, h⟩ := bo_inv h (by simp)
    obtain ⟨h2, h⟩ := bo_inv h (by simp)
    rw [Nat.eq_of_beq_eq_true h1, hih _ _ h2, hih _ _ h]
  · cases h
theorem veqN_ok : ∀ (n : Nat) (xs ys : List Value), veqN n xs ys = true → xs = ys
  | 0, _, _, h => by cases h
  | n + 1, xs, ys, h => by
    have h : veqL (veqN n) xs ys = true := h
    unfold veqL at h
    split at h
    · rfl
    · obtain ⟨h1, h⟩ := bo_inv h (by simp)
      rw [veq1_ok (veqN_ok n) h1, veqN_ok n _ _ h]
    · cases h
noncomputable def veq (a b : Value) : Bool := veqN 100000 [a] [b]
theorem veq_ok {a b : Value} (h : veq a b = true) : a = b := by
  have := veqN_ok _ _ _ h
  injection this

/-- A bit. -/
noncomputable def tb (m j : Nat) : Bool := Nat.beq (Nat.mod (Nat.div m (Nat.pow 2 j)) 2) 1
theorem tb_test (m j : Nat) : tb m j = m.testBit j := by
  unfold tb
  rw [Nat.testBit_eq_decide_div_mod_eq]
  have e : Nat.mod (Nat.div m (Nat.pow 2 j)) 2 = m / 2 ^ j % 2 := rfl
  rw [e]
  cases hb : Nat.beq (m / 2 ^ j % 2) 1 with
  | true => have := Nat.eq_of_beq_eq_true hb; simp [this]
  | false => have : m / 2 ^ j % 2 ≠ 1 := fun e => by rw [e] at hb; simp at hb
             simp [this]
theorem tb_lor (a b j : Nat) : tb (Nat.lor a b) j = (tb a j || tb b j) := by
  rw [tb_test, tb_test, tb_test]
  exact Nat.testBit_or a b j
theorem tb_pow (i j : Nat) : tb (Nat.pow 2 i) j = decide (i = j) := by
  rw [tb_test]; exact Nat.testBit_two_pow
theorem tb_zero (j : Nat) : tb 0 j = false := by rw [tb_test]; simp
/-- What an operation waits for, through others too. -/
noncomputable def maskE (acc : List Nat) (es : List Edge) : Nat :=
  @List.rec Edge (fun _ => Nat) 0 (fun ed _ ih => bo (Region.binds .any ed) (Nat.lor (Nat.lor (Nat.pow 2 ed.on) ((acc[ed.on]?).getD 0)) ih) ih) es
theorem maskE_bit {acc : List Nat} {j : Nat} : ∀ {es : List Edge}, tb (maskE acc es) j = true → ∃ ed ∈ es, Region.binds .any ed = true ∧ (ed.on = j ∨ ∃ m, acc[ed.on]? = some m ∧ tb m j = true)
  | [], h => by rw [show maskE acc [] = 0 from rfl, tb_zero] at h; cases h
  | ed :: es, h => by
    have h : tb (bo (Region.binds .any ed) (Nat.lor (Nat.lor (Nat.pow 2 ed.on) ((acc[ed.on]?).getD 0)) (maskE acc es)) (maskE acc es)) j = true := h
    cases hb : Region.binds .any ed with
    | false =>
      rw [hb, bo_false] at h
      obtain ⟨ed', h1, h2⟩ := maskE_bit h
      exact ⟨ed', by simp [h1], h2⟩
    | true =>
      rw [hb, bo_true, tb_lor, tb_lor, tb_pow, Bool.or_eq_true, Bool.or_eq_true, decide_eq_true_eq] at h
      rcases h with (h | h) | h
      · exact ⟨ed, by simp, hb, .inl h⟩
      · cases hq : acc[ed.on]? with
        | none => rw [hq, Option.getD_none, tb_zero] at h; cases h
        | some m => rw [hq, Option.getD_some] at h; exact ⟨ed, by simp, hb, .inr ⟨m, hq, h⟩⟩
      · obtain ⟨ed', h1, h2⟩ := maskE_bit h
        exact ⟨ed', by simp [h1], h2⟩
/-- The masks of a region's operations. -/
noncomputable def masks (l : List Oper) : List Nat → List Nat :=
  @List.rec Oper (fun _ => List Nat → List Nat) (fun acc => acc) (fun o _ ih acc => ih (acc ++ [maskE acc o.after.toList])) l
theorem masks_cons (o : Oper) (l : List Oper) (acc : List Nat) : masks (o :: l) acc = masks l (acc ++ [maskE acc o.after.toList]) := rfl
theorem masks_pre : ∀ (l : List Oper) (acc : List Nat) (i : Nat), i < acc.length → (masks l acc)[i]? = acc[i]?
  | [], acc, i, _ => rfl
  | o :: l, acc, i, h => by
    rw [masks_cons, masks_pre l _ i (by simp; omega), List.getElem?_append_left h]
theorem masks_get : ∀ (l : List Oper) (acc : List Nat) (i : Nat) (o : Oper), l[i]? = some o → ∃ acc', (∀ j, acc'[j]? = if j < acc.length + i then (masks l acc)[j]? else none) ∧ (masks l acc)[acc.length + i]? = some (maskE acc' o.after.toList)
  | [], _, _, _, h => by simp at h
  | o' :: l, acc, 0, o, h => by
    simp only [List.getElem?_cons_zero, Option.some.injEq] at h
    subst h
    refine ⟨acc, fun j => ?_, ?_⟩
    · by_cases hj : j < acc.length
      · rw [if_pos (by omega), masks_pre _ _ _ hj]
      · rw [if_neg (by omega), List.getElem?_eq_none (by omega)]
    · rw [masks_cons, masks_pre _ _ _ (by simp), List.getElem?_append_right (by omega)]; simp
  | o' :: l, acc, i + 1, o, h => by
    obtain ⟨acc', h1, h2⟩ := masks_get l (acc ++ [maskE acc o'.after.toList]) i o (by simpa using h)
    rw [List.length_append, List.length_singleton] at h1 h2
    refine ⟨acc', fun j => ?_, ?_⟩
    · rw [masks_cons, h1 j]
      by_cases hj : j < acc.length + 1 + i
      · rw [if_pos hj, if_pos (by omega)]
      · rw [if_neg hj, if_neg (by omega)]
    · rw [masks_cons, show acc.length + (i + 1) = acc.length + 1 + i by omega]; exact h2
/-- The memory behind so many of the operations that change it. lo: the last of them; mt: whose blocks are in it. -/
structure Snap where
  h : Hp
  nx : Nat
  mt : Nat
  lo : Option Nat
structure Live where
  i : Nat
  m : Nat
  o : Oper
  e : Tb Value
  F : List (Nat × Bl)
  v : Value
structure DS where
  e : Tb Value
  F : List (Nat × Bl)
  cur : Snap
  old : List Snap
  lv : List Live
  ld : List Nat
  v : Value
  kd : Nat
/-- The memory that an operation may lean on. -/
noncomputable def dH (nx0 m : Nat) (F : List (Nat × Bl)) (sn : Snap) : Hp :=
  @List.rec (Nat × Bl) (fun _ => Hp) sn.h (fun p _ ih => bo (tb m p.1) (bo (tb sn.mt p.1) ih (ih.put (nx0 + p.1) p.2)) ih) F
noncomputable def dHall (nx0 : Nat) (F : List (Nat × Bl)) (sn : Snap) : Hp :=
  @List.rec (Nat × Bl) (fun _ => Hp) sn.h (fun p _ ih => bo (tb sn.mt p.1) ih (ih.put (nx0 + p.1) p.2)) F
theorem dH_get {nx0 m : Nat} {sn : Snap} {id : Nat} {B : Bl} : ∀ {F : List (Nat × Bl)}, (dH nx0 m F sn).get id = some B → sn.h.get id = some B ∨ ∃ j, (j, B) ∈ F ∧ id = nx0 + j ∧ tb m j = true ∧ tb sn.mt j = false
  | [], h => .inl h
  | p :: F, h => by
    have h : (bo (tb m p.1) (bo (tb sn.mt p.1) (dH nx0 m F sn) ((dH nx0 m F sn).put (nx0 + p.1) p.2)) (dH nx0 m F sn)).get id = some B := h
    have rec_ : (dH nx0 m F sn).get id = some B → sn.h.get id = some B ∨ ∃ j, (j, B) ∈ p :: F ∧ id = nx0 + j ∧ tb m j = true ∧ tb sn.mt j = false := fun h => by
      rcases dH_get h with h | ⟨j, h1, h2⟩
      · exact .inl h
      · exact .inr ⟨j, by simp [h1], h2⟩
    cases h1 : tb m p.1 with
    | false => rw [h1, bo_false] at h; exact rec_ h
    | true =>
      rw [h1, bo_true] at h
      cases h2 : tb sn.mt p.1 with
      | true => rw [h2, bo_true] at h; exact rec_ h
      | false =>
        rw [h2, bo_false, Tb.get_put] at h
        by_cases hid : id = nx0 + p.1
        · rw [if_pos hid] at h; injection h with h; subst h
          exact .inr ⟨p.1, by simp, hid, h1, h2⟩
        · rw [if_neg hid] at h; exact rec_ h
theorem dHall_get {nx0 : Nat} {sn : Snap} {id : Nat} {B : Bl} : ∀ {F : List (Nat × Bl)}, (dHall nx0 F sn).get id = some B → sn.h.get id = some B ∨ ∃ j, (j, B) ∈ F ∧ id = nx0 + j ∧ tb sn.mt j = false
  | [], h => .inl h
  | p :: F, h => by
    have h : (bo (tb sn.mt p.1) (dHall nx0 F sn) ((dHall nx0 F sn).put (nx0 + p.1) p.2)).get id = some B := h
    have rec_ : (dHall nx0 F sn).get id = some B → sn.h.get id = some B ∨ ∃ j, (j, B) ∈ p :: F ∧ id = nx0 + j ∧ tb sn.mt j = false := fun h => by
      rcases dHall_get h with h | ⟨j, h1, h2⟩
      · exact .inl h
      · exact .inr ⟨j, by simp [h1], h2⟩
    cases h2 : tb sn.mt p.1 with
    | true => rw [h2, bo_true] at h; exact rec_ h
    | false =>
      rw [h2, bo_false, Tb.get_put] at h
      by_cases hid : id = nx0 + p.1
      · rw [if_pos hid] at h; injection h with h; subst h
        exact .inr ⟨p.1, by simp, hid, h2⟩
      · rw [if_neg hid] at h; exact rec_ h
section
variable (P : Program) (G n : Nat) (call : CallF) (ops : Array Oper) (nx0 : Nat)
/-- The same value comes out there too. -/
noncomputable def dChk (m : Nat) (o : Oper) (e : Tb Value) (F : List (Nat × Bl)) (v : Value) (sn : Snap) : Bool :=
  @OR.rec (fun _ => Bool) false (fun u _ _ => veq u v) (mOp P G call e (dH nx0 m F sn) sn.nx o)
noncomputable def dBack (m : Nat) (o : Oper) (e : Tb Value) (F : List (Nat × Bl)) (v : Value) (old : List Snap) : Snap → Bool :=
  @List.rec Snap (fun _ => Snap → Bool) (fun cur => oo cur.lo true (fun e0 => tb m e0)) (fun p _ ih cur => oo cur.lo true (fun e0 => bo (tb m e0) true (bo (dChk P G call nx0 m o e F v p) (ih p) false))) old
noncomputable def dGuard (e : Tb Value) (o : Oper) : Option Bool := oo o.guard (some true) (fun g => mGuard ops e g)
noncomputable def dStill (i m : Nat) (o : Oper) (s : DS) : Option DS :=
  match mOp P G call s.e (dH nx0 m s.F s.cur) s.cur.nx o with
  | .ok v _ _ => bo (dBack P G call nx0 m o s.e s.F v s.old s.cur) (oo (mPut n s.e o.dst v) none (fun e' => some ⟨e', s.F, s.cur, s.old, ⟨i, m, o, s.e, s.F, v⟩ :: s.lv, s.ld, v, 0⟩)) none
  | .bad => none
noncomputable def dFresh (i : Nat) (o : Oper) (s : DS) : Option DS :=
  match mOp P G call s.e .lf (nx0 + i) o with
  | .ok v h' _ => oo (h'.get (nx0 + i)) none (fun B => oo (mPut n s.e o.dst v) none (fun e' => some ⟨e', (i, B) :: s.F, s.cur, s.old, s.lv, s.ld, v, 1⟩))
  | .bad => none
noncomputable def dLoud (i m : Nat) (o : Oper) (s : DS) : Option DS :=
  match mOp P G call s.e (dH nx0 m s.F s.cur) s.cur.nx o with
  | .ok v h' nx' => bo (s.ld.all (tb m ·) && s.lv.all (fun l => tb m l.i || dChk P G call nx0 l.m l.o l.e l.F l.v ⟨h', nx', Nat.lor s.cur.mt m, some i⟩))
      (oo (mPut n s.e o.dst v) none (fun e' => some ⟨e', s.F, ⟨h', nx', Nat.lor s.cur.mt m, some i⟩, s.cur :: s.old, s.lv.filter (fun l => !tb m l.i), i :: s.ld, v, 2⟩)) none
  | .bad => none
noncomputable def dStep (i m : Nat) (o : Oper) (s : DS) : Option DS :=
  match dGuard ops s.e o with
  | some false => oo (mPut n s.e o.dst undef) none (fun e' => some ⟨e', s.F, s.cur, s.old, s.lv, s.ld, undef, 3⟩)
  | some true => match dKind P o.op with
    | 0 => dStill P G n call nx0 i m o s
    | 1 => dFresh P G n call nx0 i o s
    | _ => dLoud P G n call nx0 i m o s
  | none => none
noncomputable def dGo (l : List (Oper × Nat)) : Nat → DS → Option DS :=
  @List.rec (Oper × Nat) (fun _ => Nat → DS → Option DS) (fun _ s => some s) (fun p _ ih i s => oo (dStep P G n call ops nx0 i p.2 p.1 s) none (fun s' => ih (i + 1) s')) l
/-- The slots that an operation looks at, as bits. -/
noncomputable def lkm (l : List Nat) : Nat := @List.rec Nat (fun _ => Nat) 0 (fun t _ ih => Nat.lor (Nat.pow 2 t) ih) l
noncomputable def dApart (d1 d2 : Option Nat) (k1 k2 : Nat) (ord : Bool) : Bool :=
  match d1, d2 with
  | some a, some b => bo (Nat.beq a b) false (bo ord true (bo (tb k2 a) false (bo (tb k1 b) false true)))
  | some a, none => bo ord true (bo (tb k2 a) false true)
  | none, some b => bo ord true (bo (tb k1 b) false true)
  | none, none => true
noncomputable def dStatO (prev : List (Nat × Option Nat × Nat)) (m k : Nat) (d : Option Nat) : Bool := prev.all (fun p => dApart p.2.1 d p.2.2 k (tb m p.1))
noncomputable def dStat (l : List (Oper × Nat)) : Nat → List (Nat × Option Nat × Nat) → Bool :=
  @List.rec (Oper × Nat) (fun _ => Nat → List (Nat × Option Nat × Nat) → Bool) (fun _ _ => true) (fun p _ ih i prev =>
    bo (p.1.after.toList.all (fun ed => !Region.binds .any ed || Nat.blt ed.on i)) (bo (dStatO prev p.2 (lkm (p.1.looksAt ops)) p.1.dst) (ih (i + 1) ((i, p.1.dst, lkm (p.1.looksAt ops)) :: prev)) false) false) l
/-- A region that draws its order. -/
noncomputable def mDraw (e : Tb Value) (h : Hp) (nx : Nat) : Out :=
  bo (dStat ops (ops.toList.zip (masks ops.toList [])) 0 []) (oo (dGo P G n call ops nx (ops.toList.zip (masks ops.toList [])) 0 ⟨e, [], ⟨h, nx + ops.toList.length, 0, none⟩, [], [], [], undef, 3⟩) .bad (fun s => .nrm s.e (dHall nx s.F s.cur) s.cur.nx)) .bad
end
end Go.Proofs.YtklciidffdnglaaDoor
