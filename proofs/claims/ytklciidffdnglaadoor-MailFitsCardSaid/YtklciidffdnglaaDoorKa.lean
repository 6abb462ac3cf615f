/- A machine that runs closed code in the kernel: its memory (numbered blocks, whose places in the model's memory are left open), and what it means. Over any program. No condition. -/
import Derived.Test.YtklciidffdnglaaDoorBase2
namespace Go.Proofs.YtklciidffdnglaaDoor
open Go.RowKit

/-- One of two, one step for the kernel. -/
noncomputable def bo {α : Type} (b : Bool) (t f : α) : α := @Bool.rec (fun _ => α) f t b
theorem bo_true {α : Type} (t f : α) : bo true t f = t := rfl
theorem bo_false {α : Type} (t f : α) : bo false t f = f := rfl
noncomputable def oo {α β : Type} (x : Option α) (n : β) (s : α → β) : β := @Option.rec α (fun _ => β) n s x
theorem oo_some {α β : Type} (v : α) (n : β) (s : α → β) : oo (some v) n s = s v := rfl
theorem oo_none {α β : Type} (n : β) (s : α → β) : oo none n s = n := rfl
theorem bo_inv {α : Type} {b : Bool} {t f r : α} (h : bo b t f = r) (hf : f ≠ r) : b = true ∧ t = r := by
  cases b with
  | true => exact ⟨rfl, h⟩
  | false => exact absurd h hf
theorem oo_inv {α β : Type} {x : Option α} {n : β} {s : α → β} {r : β} (h : oo x n s = r) (hn : n ≠ r) : ∃ v, x = some v ∧ s v = r := by
  cases x with
  | none => exact absurd h hn
  | some v => exact ⟨v, rfl, h⟩

/-- Four of a kind. -/
structure Nd (α : Type) where
  a : α
  b : α
  c : α
  d : α
/-- A tower of so many floors: a place for each number below 4^m. -/
def QT (α : Type) (m : Nat) : Type := @Nat.rec (fun _ => Type) (Option α) (fun _ T => Nd T) m
noncomputable def QT.emp (α : Type) (m : Nat) : QT α m := @Nat.rec (QT α) (none : Option α) (fun m ih => (Nd.mk ih ih ih ih : Nd (QT α m))) m
noncomputable def dig4 {β : Type} (n : Nat) (x0 x1 x2 x3 : β) : β := bo (Nat.beq n 0) x0 (bo (Nat.beq n 1) x1 (bo (Nat.beq n 2) x2 x3))
theorem dig4_eq {β : Type} (n : Nat) (x0 x1 x2 x3 : β) : dig4 n x0 x1 x2 x3 = if n = 0 then x0 else if n = 1 then x1 else if n = 2 then x2 else x3 := by
  match n with
  | 0 => rfl
  | 1 => rfl
  | 2 => rfl
  | n + 3 => rw [if_neg (by omega), if_neg (by omega), if_neg (by omega)]; rfl
def qget {α : Type} : (m : Nat) → Nat → QT α m → Option α
  | 0, _, q => q
  | m + 1, k, q => have q : Nd (QT α m) := q; if k / 4 ^ m = 0 then qget m (k % 4 ^ m) q.a else if k / 4 ^ m = 1 then qget m (k % 4 ^ m) q.b else if k / 4 ^ m = 2 then qget m (k % 4 ^ m) q.c else qget m (k % 4 ^ m) q.d
def qput {α : Type} (v : Option α) : (m : Nat) → Nat → QT α m → QT α m
  | 0, _, _ => v
  | m + 1, k, q => have q : Nd (QT α m) := q; if k / 4 ^ m = 0 then (Nd.mk (qput v m (k % 4 ^ m) q.a) q.b q.c q.d : Nd (QT α m)) else if k / 4 ^ m = 1 then (Nd.mk q.a (qput v m (k % 4 ^ m) q.b) q.c q.d : Nd (QT α m)) else if k / 4 ^ m = 2 then (Nd.mk q.a q.b (qput v m (k % 4 ^ m) q.c) q.d : Nd (QT α m)) else (Nd.mk q.a q.b q.c (qput v m (k % 4 ^ m) q.d) : Nd (QT α m))
theorem qget_succ {α : Type} (m k : Nat) (q : Nd (QT α m)) : qget (m + 1) k (q : QT α (m + 1)) = if k / 4 ^ m = 0 then qget m (k % 4 ^ m) q.a else if k / 4 ^ m = 1 then qget m (k % 4 ^ m) q.b else if k / 4 ^ m = 2 then qget m (k % 4 ^ m) q.c else qget m (k % 4 ^ m) q.d := rfl
theorem qput_succ {α : Type} (v : Option α) (m k : Nat) (q : Nd (QT α m)) : qput v (m + 1) k (q : QT α (m + 1)) = if k / 4 ^ m = 0 then (Nd.mk (qput v m (k % 4 ^ m) q.a) q.b q.c q.d : Nd (QT α m)) else if k / 4 ^ m = 1 then (Nd.mk q.a (qput v m (k % 4 ^ m) q.b) q.c q.d : Nd (QT α m)) else if k / 4 ^ m = 2 then (Nd.mk q.a q.b (qput v m (k % 4 ^ m) q.c) q.d : Nd (QT α m)) else (Nd.mk q.a q.b q.c (qput v m (k % 4 ^ m) q.d) : Nd (QT α m)) := rfl
theorem qget_emp {α : Type} : ∀ (m k : Nat), qget m k (QT.emp α m) = none
  | 0, _ => rfl
  | m + 1, k => by
    have h := qget_emp (α := α) m (k % 4 ^ m)
    have e : QT.emp α (m + 1) = (Nd.mk (QT.emp α m) (QT.emp α m) (QT.emp α m) (QT.emp α m) : Nd (QT α m)) := rfl
    rw [e, qget_succ]
    simp only [h, ite_self]
theorem div_lt4 {k m : Nat} (h : k < 4 ^ (m + 1)) : k / 4 ^ m < 4 := Nat.div_lt_of_lt_mul (by rw [Nat.pow_succ] at h; exact h)
theorem pow4_pos (m : Nat) : 0 < 4 ^ m := Nat.pow_pos (by omega)
theorem qget_qput {α : Type} (v : Option α) : ∀ (m k j : Nat) (q : QT α m), k < 4 ^ m → j < 4 ^ m → qget m j (qput v m k q) = if j = k then v else qget m j q
  | 0, k, j, q, hk, hj => by
    have : j = k := by simp at hk hj; omega
    rw [if_pos this]; rfl
  | m + 1, k, j, q, hk, hj => by
    have ih := fun (q : QT α m) => qget_qput v m (k % 4 ^ m) (j % 4 ^ m) q (Nat.mod_lt _ (pow4_pos m)) (Nat.mod_lt _ (pow4_pos m))
    have hk4 := div_lt4 hk
    have hj4 := div_lt4 hj
    have ek := Nat.div_add_mod k (4 ^ m)
    have ej := Nat.div_add_mod j (4 ^ m)
    have hkj : j = k ↔ (j / 4 ^ m = k / 4 ^ m ∧ j % 4 ^ m = k % 4 ^ m) := ⟨fun e => by rw [e]; exact ⟨rfl, rfl⟩, fun ⟨e1, e2⟩ => by rw [← ek, ← ej, e1, e2]⟩
    generalize hK : k / 4 ^ m = K at hk4 hkj
    generalize hJ : j / 4 ^ m = J at hj4 hkj
    have hp := qput_succ v m k q
    have hg : ∀ q : Nd (QT α m), qget (m + 1) j q = if j / 4 ^ m = 0 then qget m (j % 4 ^ m) q.a else if j / 4 ^ m = 1 then qget m (j % 4 ^ m) q.b else if j / 4 ^ m = 2 then qget m (j % 4 ^ m) q.c else qget m (j % 4 ^ m) q.d := fun q => qget_succ m j q
    rw [hK] at hp
    rw [hJ] at hg
    rw [hp, hg q]
    match K, hk4 with
    | 0, _ => rw [if_pos rfl, hg]; match J, hj4 with
      | 0, _ => simp only [if_true, ih]; by_cases e : j % 4 ^ m = k % 4 ^ m <;> simp [hkj, e]
      | 1, _ => simp [hkj]
      | 2, _ => simp [hkj]
      | 3, _ => simp [hkj]
    | 1, _ => rw [if_neg (by omega), if_pos rfl, hg]; match J, hj4 with
      | 0, _ => simp [hkj]
      | 1, _ => simp only [Nat.one_ne_zero, if_false, if_true, ih]; by_cases e : j % 4 ^ m = k % 4 ^ m <;> simp [hkj, e]
      | 2, _ => simp [hkj]
      | 3, _ => simp [hkj]
    | 2, _ => rw [if_neg (by omega), if_neg (by omega), if_pos rfl, hg]; match J, hj4 with
      | 0, _ => simp [hkj]
      | 1, _ => simp [hkj]
      | 2, _ =>
        show qget m (j % 4 ^ m) (qput v m (k % 4 ^ m) _) = if j = k then v else qget m (j % 4 ^ m) _
        rw [ih]; by_cases e : j % 4 ^ m = k % 4 ^ m <;> simp [hkj, e]
      | 3, _ => simp [hkj]
    | 3, _ => rw [if_neg (by omega), if_neg (by omega), if_neg (by omega), hg]; match J, hj4 with
      | 0, _ => simp [hkj]
      | 1, _ => simp [hkj]
      | 2, _ => simp [hkj]
      | 3, _ =>
        show qget m (j % 4 ^ m) (qput v m (k % 4 ^ m) _) = if j = k then v else qget m (j % 4 ^ m) _
        rw [ih]; by_cases e : j % 4 ^ m = k % 4 ^ m <;> simp [hkj, e]
/-- What looks up a number: made once for each number, a function without choices. -/
structure GB (α : Type) (m : Nat) where
  f : QT α m → Option α
noncomputable def gstep (α : Type) (m k : Nat) (f : QT α m → Option α) : GB α (m + 1) := dig4 (Nat.div k (Nat.pow 4 m))
    (GB.mk (m := m + 1) (fun q => @Nd.rec (QT α m) (fun _ => Option α) (fun a _ _ _ => f a) q)) (GB.mk (m := m + 1) (fun q => @Nd.rec (QT α m) (fun _ => Option α) (fun _ b _ _ => f b) q))
    (GB.mk (m := m + 1) (fun q => @Nd.rec (QT α m) (fun _ => Option α) (fun _ _ c _ => f c) q)) (GB.mk (m := m + 1) (fun q => @Nd.rec (QT α m) (fun _ => Option α) (fun _ _ _ d => f d) q))
noncomputable def gbox (α : Type) (m : Nat) : Nat → GB α m :=
  @Nat.rec (fun m => Nat → GB α m) (fun _ => GB.mk (m := 0) (fun q => q)) (fun m ih k => @GB.rec α m (fun _ => GB α (m + 1)) (gstep α m k) (ih (Nat.mod k (Nat.pow 4 m)))) m
theorem gbox_eq {α : Type} : ∀ (m k : Nat) (q : QT α m), (gbox α m k).f q = qget m k q
  | 0, _, _ => rfl
  | m + 1, k, q => by
    have ih := fun q => gbox_eq (α := α) m (k % 4 ^ m) q
    show (gstep α m k (gbox α m (k % 4 ^ m)).f).f q = _
    rw [show qget (m + 1) k q = _ from qget_succ m k q]
    unfold gstep
    rw [dig4_eq]
    have e : Nat.div k (Nat.pow 4 m) = k / 4 ^ m := rfl
    rw [e]
    split
    · exact ih _
    · split
      · exact ih _
      · split
        · exact ih _
        · exact ih _
/-- A table by numbers. -/
structure Tb (α : Type) where
  m : Nat
  q : QT α m
noncomputable def gtop (α : Type) (m k : Nat) : GB α m := bo (Nat.blt k (Nat.pow 4 m)) (gbox α m k) ⟨fun _ => none⟩
/-- What writes at a number. -/
structure UB (α β : Type) (m : Nat) where
  f : QT α m → Option α → (QT α m → β) → β
noncomputable def ustep (α β : Type) (m k : Nat) (f : QT α m → Option α → (QT α m → β) → β) : UB α β (m + 1) := dig4 (Nat.div k (Nat.pow 4 m))
    (UB.mk (m := m + 1) (fun q v K => @Nd.rec (QT α m) (fun _ => β) (fun a b c d => f a v (fun x => K (Nd.mk x b c d : Nd (QT α m)))) q)) (UB.mk (m := m + 1) (fun q v K => @Nd.rec (QT α m) (fun _ => β) (fun a b c d => f b v (fun x => K (Nd.mk a x c d : Nd (QT α m)))) q))
    (UB.mk (m := m + 1) (fun q v K => @Nd.rec (QT α m) (fun _ => β) (fun a b c d => f c v (fun x => K (Nd.mk a b x d : Nd (QT α m)))) q)) (UB.mk (m := m + 1) (fun q v K => @Nd.rec (QT α m) (fun _ => β) (fun a b c d => f d v (fun x => K (Nd.mk a b c x : Nd (QT α m)))) q))
noncomputable def ubox (α β : Type) (m : Nat) : Nat → UB α β m :=
  @Nat.rec (fun m => Nat → UB α β m) (fun _ => UB.mk (m := 0) (fun _ v K => K v)) (fun m ih k => @UB.rec α β m (fun _ => UB α β (m + 1)) (ustep α β m k) (ih (Nat.mod k (Nat.pow 4 m)))) m
theorem ubox_eq {α β : Type} (v : Option α) : ∀ (m k : Nat) (q : QT α m) (K : QT α m → β), (ubox α β m k).f q v K = K (qput v m k q)
  | 0, _, _, _ => rfl
  | m + 1, k, q, K => by
    have ih := fun q K => ubox_eq (β := β) v m (k % 4 ^ m) q K
    show (ustep α β m k (ubox α β m (k % 4 ^ m)).f).f q v K = _
    rw [show qput v (m + 1) k q = _ from qput_succ v m k q]
    unfold ustep
    rw [dig4_eq]
    have e : Nat.div k (Nat.pow 4 m) = k / 4 ^ m := rfl
    rw [e]
    split
    · exact ih _ _
    · split
      · exact ih _ _
      · split
        · exact ih _ _
        · exact ih _ _
structure LB (α β : Type) (m : Nat) where
  f : QT α m → Option α → (Tb α → β) → β
noncomputable def lhere (α β : Type) (m : Nat) (f : QT α m → Option α → (QT α m → β) → β) : LB α β m := ⟨fun q v K => f q v (fun x => K ⟨m, x⟩)⟩
noncomputable def lover (α β : Type) (m : Nat) (f : QT α (m + 1) → Option α → (Tb α → β) → β) : LB α β m := ⟨fun q v K => f (Nd.mk q (QT.emp α m) (QT.emp α m) (QT.emp α m) : Nd (QT α m)) v K⟩
noncomputable def ltop (α β : Type) (fuel : Nat) : (m k : Nat) → LB α β m :=
  @Nat.rec (fun _ => (m k : Nat) → LB α β m) (fun m k => @UB.rec α β m (fun _ => LB α β m) (lhere α β m) (ubox α β m k))
    (fun _ ih m k => bo (Nat.blt k (Nat.pow 4 m)) (@UB.rec α β m (fun _ => LB α β m) (lhere α β m) (ubox α β m k)) (@LB.rec α β (m + 1) (fun _ => LB α β m) (lover α β m) (ih (Nat.succ m) k))) fuel
noncomputable def tupd {α : Type} (k : Nat) (v : Option α) : (fuel m : Nat) → QT α m → Tb α
  | 0, m, q => ⟨m, qput v m k q⟩
  | f + 1, m, q => if k < 4 ^ m then ⟨m, qput v m k q⟩ else tupd k v f (m + 1) (Nd.mk q (QT.emp α m) (QT.emp α m) (QT.emp α m) : Nd (QT α m))
theorem ltop_eq {α β : Type} (v : Option α) (k : Nat) : ∀ (fuel m : Nat) (q : QT α m) (K : Tb α → β), (ltop α β fuel m k).f q v K = K (tupd k v fuel m q)
  | 0, m, q, K => by
    show (lhere α β m (ubox α β m k).f).f q v K = _
    exact ubox_eq v m k q _
  | fuel + 1, m, q, K => by
    show (bo (Nat.blt k (Nat.pow 4 m)) (lhere α β m (ubox α β m k).f) (lover α β m (ltop α β fuel (m + 1) k).f)).f q v K = _
    unfold tupd
    by_cases h : k < 4 ^ m
    · have hb : Nat.blt k (Nat.pow 4 m) = true := Nat.ble_eq_true_of_le h
      rw [hb, bo_true, if_pos h]
      exact ubox_eq v m k q _
    · have hb : Nat.blt k (Nat.pow 4 m) = false := by
        cases hq : Nat.blt k (Nat.pow 4 m) with
        | false => rfl
        | true => exact absurd (Nat.le_of_ble_eq_true hq) h
      rw [hb, bo_false, if_neg h]
      exact ltop_eq v k fuel (m + 1) _ K
namespace Tb
variable {α : Type}
noncomputable def lf : Tb α := ⟨0, (none : Option α)⟩
noncomputable def get (t : Tb α) (k : Nat) : Option α := @Tb.rec α (fun _ => Option α) (fun m q => @GB.rec α m (fun _ => Option α) (fun f => f q) (gtop α m k)) t
noncomputable def upd (t : Tb α) (k : Nat) (v : Option α) : Tb α := tupd k v k t.m t.q
noncomputable def put (t : Tb α) (k : Nat) (v : α) : Tb α := t.upd k (some v)
noncomputable def del (t : Tb α) (k : Nat) : Tb α := t.upd k none
theorem get_eq (t : Tb α) (k : Nat) : t.get k = if k < 4 ^ t.m then qget t.m k t.q else none := by
  obtain ⟨m, q⟩ := t
  show (gtop α m k).f q = _
  unfold gtop
  by_cases h : k < 4 ^ m
  · have hb : Nat.blt k (Nat.pow 4 m) = true := Nat.ble_eq_true_of_le h
    rw [hb, bo_true, if_pos h]; exact gbox_eq m k q
  · have hb : Nat.blt k (Nat.pow 4 m) = false := by
      cases hq : Nat.blt k (Nat.pow 4 m) with
      | false => rfl
      | true => exact absurd (Nat.le_of_ble_eq_true hq) h
    rw [hb, bo_false, if_neg h]
theorem get_lift (m : Nat) (q : QT α m) (j : Nat) : (Tb.mk (m + 1) (Nd.mk q (QT.emp α m) (QT.emp α m) (QT.emp α m) : Nd (QT α m))).get j = (Tb.mk m q).get j := by
  rw [get_eq, get_eq]
  simp only
  by_cases h : j < 4 ^ m
  · rw [if_pos h, if_pos (by rw [Nat.pow_succ]; omega), qget_succ, Nat.div_eq_of_lt h, if_pos rfl, Nat.mod_eq_of_lt h]
  · rw [if_neg h]
    by_cases h2 : j < 4 ^ (m + 1)
    · rw [if_pos h2, qget_succ]
      have : j / 4 ^ m ≠ 0 := fun e => by
        have := Nat.div_add_mod j (4 ^ m)
        have := Nat.mod_lt j (pow4_pos m)
        rw [e] at *; omega
      rw [if_neg this]
      simp only [qget_emp, ite_self]
    · rw [if_neg h2]
theorem get_tupd (k : Nat) (v : Option α) (j : Nat) : ∀ (f m : Nat) (q : QT α m), k < 4 ^ (m + f) → (tupd k v f m q).get j = if j = k then v else (Tb.mk m q).get j := by
  have key : ∀ (m : Nat) (q : QT α m), k < 4 ^ m → (Tb.mk m (qput v m k q)).get j = if j = k then v else (Tb.mk m q).get j := fun m q hk => by
    rw [get_eq, get_eq]
    simp only
    by_cases hj : j < 4 ^ m
    · rw [if_pos hj, if_pos hj, qget_qput v m k j q hk hj]
    · rw [if_neg hj, if_neg hj, if_neg (fun e => hj (by rw [e]; exact hk))]
  intro f
  induction f with
  | zero => exact fun m q hk => key m q hk
  | succ f ih =>
    intro m q hk
    unfold tupd
    by_cases h : k < 4 ^ m
    · rw [if_pos h]; exact key m q h
    · rw [if_neg h]
      refine (ih (m + 1) _ (by rw [show m + 1 + f = m + (f + 1) by omega]; exact hk)).trans ?_
      by_cases e : j = k
      · rw [if_pos e, if_pos e]
      · rw [if_neg e, if_neg e]; exact get_lift m q j
theorem lt_pow4 (k : Nat) : k < 4 ^ k := Nat.lt_pow_self (by omega)
theorem get_upd (t : Tb α) (k : Nat) (v : Option α) (j : Nat) : (t.upd k v).get j = if j = k then v else t.get j :=
  get_tupd k v j k t.m t.q (Nat.lt_of_lt_of_le (lt_pow4 k) (Nat.pow_le_pow_right (by omega) (by omega)))
theorem get_lf (k : Nat) : (Tb.lf : Tb α).get k = none := by
  rw [get_eq]
  unfold lf
  simp only
  split <;> rfl
theorem get_put (t : Tb α) (k : Nat) (v : α) (j : Nat) : (t.put k v).get j = if j = k then some v else t.get j := get_upd t k (some v) j
theorem get_del (t : Tb α) (k : Nat) (j : Nat) : (t.del k).get j = if j = k then none else t.get j := get_upd t k none j
theorem get_put_same (t : Tb α) (k : Nat) (v : α) : (t.put k v).get k = some v := by rw [get_put]; simp
end Tb
/-- How many floors so many want. -/
noncomputable def dep (n fuel : Nat) : Nat → Nat := @Nat.rec (fun _ => Nat → Nat) (fun m => m) (fun _ ih m => bo (Nat.ble n (Nat.pow 4 m)) m (ih (Nat.succ m))) fuel
theorem dep_le (n : Nat) : ∀ (f m : Nat), n ≤ 4 ^ (m + f) → n ≤ 4 ^ (dep n f m)
  | 0, m, h => h
  | f + 1, m, h => by
    show n ≤ 4 ^ (bo (Nat.ble n (Nat.pow 4 m)) m (dep n f (m + 1)))
    cases hb : Nat.ble n (Nat.pow 4 m) with
    | true => exact Nat.le_of_ble_eq_true hb
    | false => exact dep_le n f (m + 1) (by rw [show m + 1 + f = m + (f + 1) by omega]; exact h)
theorem dep_ok (n : Nat) : n ≤ 4 ^ (dep n n 0) := dep_le n n 0 (by rw [Nat.zero_add]; exact Nat.le_of_lt (Tb.lt_pow4 n))
/-- A tower out of a list, and what is left of it. -/
structure RD (α : Type) (m : Nat) where
  q : QT α m
  l : List α
noncomputable def qread (α : Type) (m : Nat) : List α → RD α m :=
  @Nat.rec (fun m => List α → RD α m) (fun l => @List.rec α (fun _ => RD α 0) (RD.mk (m := 0) (none : Option α) []) (fun x r _ => RD.mk (m := 0) (some x) r) l)
    (fun m ih l => @List.rec α (fun _ => RD α (m + 1)) (RD.mk (m := m + 1) (QT.emp α (m + 1)) []) (fun _ _ _ => @RD.rec α m (fun _ => RD α (m + 1)) (fun a l1 => @RD.rec α m (fun _ => RD α (m + 1)) (fun b l2 => @RD.rec α m (fun _ => RD α (m + 1)) (fun c l3 => @RD.rec α m (fun _ => RD α (m + 1))
      (fun d l4 => RD.mk (m := m + 1) (Nd.mk a b c d : Nd (QT α m)) l4) (ih l3)) (ih l2)) (ih l1)) (ih l)) l) m
theorem qread_eq {α : Type} : ∀ (m : Nat) (l : List α), (qread α m l).l = l.drop (4 ^ m) ∧ ∀ k, k < 4 ^ m → qget m k (qread α m l).q = l[k]?
  | 0, [] => ⟨rfl, fun k _ => by simp; rfl⟩
  | 0, x :: r => ⟨rfl, fun k hk => by
    obtain rfl : k = 0 := by simp at hk; exact hk
    rfl⟩
  | m + 1, [] => ⟨by simp; rfl, fun k _ => by
    show qget (m + 1) k (QT.emp α (m + 1)) = _
    rw [qget_emp]; simp⟩
  | m + 1, x :: r => by
    generalize hl : x :: r = l
    have e : qread α (m + 1) l = ⟨(Nd.mk (qread α m l).q (qread α m (qread α m l).l).q (qread α m (qread α m (qread α m l).l).l).q (qread α m (qread α m (qread α m (qread α m l).l).l).l).q : Nd (QT α m)), (qread α m (qread α m (qread α m (qread α m l).l).l).l).l⟩ := by
      subst hl; rfl
    obtain ⟨a1, a2⟩ := qread_eq (α := α) m l
    rw [a1] at e
    obtain ⟨b1, b2⟩ := qread_eq (α := α) m (l.drop (4 ^ m))
    rw [b1, List.drop_drop] at e
    obtain ⟨c1, c2⟩ := qread_eq (α := α) m (l.drop (4 ^ m + 4 ^ m))
    rw [c1, List.drop_drop] at e
    obtain ⟨d1, d2⟩ := qread_eq (α := α) m (l.drop (4 ^ m + 4 ^ m + 4 ^ m))
    rw [e]
    refine ⟨?_, fun k hk => ?_⟩
    · show (qread α m (l.drop (4 ^ m + 4 ^ m + 4 ^ m))).l = _
      rw [d1, List.drop_drop]
      congr 1; rw [Nat.pow_succ]; omega
    · show qget (m + 1) k ((Nd.mk _ _ _ _ : Nd (QT α m)) : QT α (m + 1)) = _
      rw [qget_succ]
      have hk4 := div_lt4 hk
      have ek := Nat.div_add_mod k (4 ^ m)
      have hm := Nat.mod_lt k (pow4_pos m)
      generalize k / 4 ^ m = K at hk4 ek ⊢
      generalize k % 4 ^ m = J at hm ek ⊢
      simp only [a2 J hm, b2 J hm, c2 J hm, d2 J hm, List.getElem?_drop]
      match K, hk4 with
      | 0, _ => rw [if_pos rfl]; congr 1; omega
      | 1, _ => rw [if_neg (by omega), if_pos rfl]; congr 1; omega
      | 2, _ => rw [if_neg (by omega), if_neg (by omega), if_pos rfl]; congr 1; omega
      | 3, _ => rw [if_neg (by omega), if_neg (by omega), if_neg (by omega)]; congr 1; omega
noncomputable def lenL {α : Type} (l : List α) : Nat := @List.rec α (fun _ => Nat) 0 (fun _ _ ih => Nat.succ ih) l
theorem lenL_eq {α : Type} : ∀ l : List α, lenL l = l.length
  | [] => rfl
  | _ :: l => congrArg Nat.succ (lenL_eq l)
noncomputable def natT {α : Type} (n : Nat) (f : Nat → Tb α) : Tb α := @Nat.rec (fun _ => Tb α) (f 0) (fun m _ => f (Nat.succ m)) n
theorem natT_eq {α : Type} (n : Nat) (f : Nat → Tb α) : natT n f = f n := by cases n <;> rfl
noncomputable def Tb.of {α : Type} (l : List α) : Tb α := natT (dep (lenL l) (lenL l) 0) (fun m => @RD.rec α m (fun _ => Tb α) (fun q _ => ⟨m, q⟩) (qread α m l))
theorem Tb.get_of {α : Type} (l : List α) (k : Nat) : (Tb.of l).get k = l[k]? := by
  unfold Tb.of
  rw [natT_eq, lenL_eq]
  show (Tb.mk (dep l.length l.length 0) (qread α _ l).q).get k = _
  rw [Tb.get_eq]
  simp only
  have hd := dep_ok l.length
  by_cases h : k < 4 ^ dep l.length l.length 0
  · rw [if_pos h]; exact (qread_eq _ l).2 k h
  · rw [if_neg h, List.getElem?_eq_none (by omega)]
/-- n times the same: the parts are made when they are looked at. -/
noncomputable def qrep {α : Type} (v : α) (m : Nat) : Nat → QT α m :=
  @Nat.rec (fun m => Nat → QT α m) (fun n => (bo (Nat.beq n 0) none (some v) : Option α)) (fun m ih n => (Nd.mk (ih n) (ih (Nat.sub n (Nat.pow 4 m))) (ih (Nat.sub n (Nat.mul 2 (Nat.pow 4 m)))) (ih (Nat.sub n (Nat.mul 3 (Nat.pow 4 m)))) : Nd (QT α m))) m
theorem qrep_eq {α : Type} (v : α) : ∀ (m n k : Nat), k < 4 ^ m → qget m k (qrep v m n) = if k < n then some v else none
  | 0, n, k, hk => by
    obtain rfl : k = 0 := by simp at hk; exact hk
    show (bo (Nat.beq n 0) none (some v) : Option α) = _
    cases n with
    | zero => rfl
    | succ n => rw [if_pos (by omega)]; rfl
  | m + 1, n, k, hk => by
    have e : qrep v (m + 1) n = (Nd.mk (qrep v m n) (qrep v m (n - 4 ^ m)) (qrep v m (n - 2 * 4 ^ m)) (qrep v m (n - 3 * 4 ^ m)) : Nd (QT α m)) := rfl
    rw [e, qget_succ]
    have hk4 := div_lt4 hk
    have ek := Nat.div_add_mod k (4 ^ m)
    have hm := Nat.mod_lt k (pow4_pos m)
    generalize k / 4 ^ m = K at hk4 ek ⊢
    generalize k % 4 ^ m = J at hm ek ⊢
    simp only [qrep_eq v m _ J hm]
    have fin : ∀ (a b : Nat), (J < a ↔ k < b) → (if J < a then some v else none) = if k < b then some v else none := fun a b h => by
      by_cases hh : J < a
      · rw [if_pos hh, if_pos (h.1 hh)]
      · rw [if_neg hh, if_neg (fun h' => hh (h.2 h'))]
    match K, hk4 with
    | 0, _ => rw [if_pos rfl]; exact fin _ _ (by omega)
    | 1, _ => rw [if_neg (by omega), if_pos rfl]; exact fin _ _ (by omega)
    | 2, _ => rw [if_neg (by omega), if_neg (by omega), if_pos rfl]; exact fin _ _ (by omega)
    | 3, _ => rw [if_neg (by omega), if_neg (by omega), if_neg (by omega)]; exact fin _ _ (by omega)
noncomputable def Tb.repN {α : Type} (v : α) (m : Nat) (n : Nat) : Tb α := natT (dep m m 0) (fun d => ⟨d, qrep v d n⟩)
theorem Tb.get_repN {α : Type} (v : α) (n k : Nat) : (Tb.repN v n n).get k = (List.replicate n v)[k]? := by
  unfold Tb.repN
  rw [natT_eq, Tb.get_eq, List.getElem?_replicate]
  simp only
  have hd := dep_ok n
  by_cases h : k < 4 ^ dep n n 0
  · rw [if_pos h, qrep_eq v _ n k h]
  · rw [if_neg h, if_neg (by omega)]
/-- The same at once: what is written is looked at, so that no work is left behind. -/
noncomputable def updS {α β : Type} (t : Tb α) (k : Nat) (v : Option α) (f : Tb α → β) : β := @Tb.rec α (fun _ => β) (fun m q => @LB.rec α β m (fun _ => β) (fun g => g q v f) (ltop α β k m k)) t
theorem updS_eq {α β : Type} (t : Tb α) (k : Nat) (v : Option α) (f : Tb α → β) : updS t k v f = f (t.upd k v) := by
  obtain ⟨m, q⟩ := t
  exact ltop_eq v k k m q f
noncomputable def putS {α β : Type} (t : Tb α) (k : Nat) (v : α) (f : Tb α → β) : β := updS t k (some v) f
theorem putS_eq {α β : Type} (t : Tb α) (k : Nat) (v : α) (f : Tb α → β) : putS t k v f = f (t.put k v) := updS_eq _ _ _ _
noncomputable def delS {α β : Type} (t : Tb α) (k : Nat) (f : Tb α → β) : β := updS t k none f
theorem delS_eq {α β : Type} (t : Tb α) (k : Nat) (f : Tb α → β) : delS t k f = f (t.del k) := updS_eq _ _ _ _
noncomputable def natS {β : Type} (n : Nat) (f : Nat → β) : β := @Nat.rec (fun _ => β) (f 0) (fun m _ => f (Nat.succ m)) n
theorem natS_eq {β : Type} (n : Nat) (f : Nat → β) : natS n f = f n := by cases n <;> rfl
noncomputable def listS {α β : Type} (l : List α) : (List α → β) → β := @List.rec α (fun _ => (List α → β) → β) (fun f => f []) (fun x _ ih f => ih (fun l => f (x :: l))) l
theorem listS_eq {α β : Type} : ∀ (l : List α) (f : List α → β), listS l f = f l
  | [], _ => rfl
  | x :: l, f => by
    show listS l (fun l => f (x :: l)) = _
    rw [listS_eq l]
/-- A value whose numbers are looked at. -/
noncomputable def valS {β : Type} (v : Value) (f : Value → β) : β :=
  match v with
  | .int k (.ofNat m) => natS m (fun m => f (.int k (.ofNat m)))
  | .int k (.negSucc m) => natS m (fun m => f (.int k (.negSucc m)))
  | .bool b => bo b (f (.bool true)) (f (.bool false))
  | .pointer (some ⟨id, off, sp⟩) => natS off (fun off => f (.pointer (some ⟨id, off, sp⟩)))
  | .slice (some ⟨id, off, sp⟩) n c => natS off (fun off => natS n (fun n => natS c (fun c => f (.slice (some ⟨id, off, sp⟩) n c))))
  | v => f v
theorem valS_eq {β : Type} (v : Value) (f : Value → β) : valS v f = f v := by
  unfold valS
  split
  · rw [natS_eq]
  · rw [natS_eq]
  · rename_i b; cases b <;> rfl
  · rw [natS_eq]
  · rw [natS_eq, natS_eq, natS_eq]
  · rfl

/-- Where a numbered block lies: its row, the first cell, the row's size. -/
structure Loc where
  blk : Nat
  base : Nat
  size : Nat
abbrev Sg := Nat → Option Loc

/-- A value that names no place in memory. -/
def scal : Value → Bool
  | .bool _ | .int _ _ | .float _ _ | .complex _ _ _ | .string _ | .pointer none | .slice none _ _ | .map none | .nilFunc | .nilIface => true
  | _ => false
/-- Values of the machine stand for values of the model, one by one. A slice whose address bears a spot z is open: its capacity, of elements of z cells, reaches to the row's end; of one that bears capacity 1 it is only known that it is empty. -/
inductive VRs (σ : Sg) : List Value → List Value → Prop
  | nil : VRs σ [] []
  | sc {us vs : List Value} (v : Value) : scal v = true → VRs σ us vs → VRs σ (v :: us) (v :: vs)
  | ptr {us vs : List Value} {id off : Nat} {L : Loc} : σ id = some L → VRs σ us vs → VRs σ (.pointer (some ⟨id, off, none⟩) :: us) (.pointer (some ⟨L.blk, L.base + off, none⟩) :: vs)
  | sl {us vs : List Value} {id off n c : Nat} {L : Loc} : σ id = some L → VRs σ us vs → VRs σ (.slice (some ⟨id, off, none⟩) n c :: us) (.slice (some ⟨L.blk, L.base + off, none⟩) n c :: vs)
  | slo {us vs : List Value} {id off n c z : Nat} {L : Loc} : σ id = some L → n ≤ c → L.base + off + c * z = L.size → VRs σ us vs → VRs σ (.slice (some ⟨id, off, some z⟩) n 0 :: us) (.slice (some ⟨L.blk, L.base + off, none⟩) n c :: vs)
  | sle {us vs : List Value} {id off z c A : Nat} {L : Loc} : σ id = some L → (c = 0 ∨ A = L.base + off ∧ L.base + off + c * z = L.size) → VRs σ us vs → VRs σ (.slice (some ⟨id, off, some z⟩) 0 1 :: us) (.slice (some ⟨L.blk, A, none⟩) 0 c :: vs)
  | map {us vs : List Value} {id : Nat} {L : Loc} : σ id = some L → VRs σ us vs → VRs σ (.map (some id) :: us) (.map (some L.blk) :: vs)
  | func {us vs xs ys xs' ys' : List Value} (f : FuncId) : VRs σ xs ys → VRs σ xs' ys' → VRs σ us vs → VRs σ (.func (.func f) ⟨xs⟩ ⟨xs'⟩ :: us) (.func (.func f) ⟨ys⟩ ⟨ys'⟩ :: vs)
  | yld {us vs : List Value} {id : Nat} {L : Loc} : σ id = some L → VRs σ us vs → VRs σ (.func (.yield id) ⟨[]⟩ ⟨[]⟩ :: us) (.func (.yield L.blk) ⟨[]⟩ ⟨[]⟩ :: vs)
  | iface {us vs : List Value} {x y : Value} (t : TypeId) : VRs σ [x] [y] → VRs σ us vs → VRs σ (.iface t x :: us) (.iface t y :: vs)
  | agg {us vs xs ys : List Value} : VRs σ xs ys → VRs σ us vs → VRs σ (.agg ⟨xs⟩ :: us) (.agg ⟨ys⟩ :: vs)
  | tuple {us vs xs ys : List Value} : VRs σ xs ys → VRs σ us vs → VRs σ (.tuple ⟨xs⟩ :: us) (.tuple ⟨ys⟩ :: vs)
abbrev VR (σ : Sg) (x y : Value) : Prop := VRs σ [x] [y]

theorem VRs.cons {σ : Sg} {x y : Value} {us vs : List Value} (h : VR σ x y) (t : VRs σ us vs) : VRs σ (x :: us) (y :: vs) := by
  cases h with
  | sc _ h _ => exact .sc _ h t
  | ptr h _ => exact .ptr h t
  | sl h _ => exact .sl h t
  | slo h h1 h2 _ => exact .slo h h1 h2 t
  | sle h h1 _ => exact .sle h h1 t
  | map h _ => exact .map h t
  | func f h h' _ => exact .func f h h' t
  | yld h _ => exact .yld h t
  | iface ty h _ => exact .iface ty h t
  | agg h _ => exact .agg h t
  | tuple h _ => exact .tuple h t
theorem VRs.inv {σ : Sg} {x : Value} {us vs : List Value} (h : VRs σ (x :: us) vs) : ∃ y vs', vs = y :: vs' ∧ VR σ x y ∧ VRs σ us vs' := by
  cases h with
  | sc _ h t => exact ⟨_, _, rfl, .sc _ h .nil, t⟩
  | ptr h t => exact ⟨_, _, rfl, .ptr h .nil, t⟩
  | sl h t => exact ⟨_, _, rfl, .sl h .nil, t⟩
  | slo h h1 h2 t => exact ⟨_, _, rfl, .slo h h1 h2 .nil, t⟩
  | sle h h1 t => exact ⟨_, _, rfl, .sle h h1 .nil, t⟩
  | map h t => exact ⟨_, _, rfl, .map h .nil, t⟩
  | func f h h' t => exact ⟨_, _, rfl, .func f h h' .nil, t⟩
  | yld h t => exact ⟨_, _, rfl, .yld h .nil, t⟩
  | iface ty h t => exact ⟨_, _, rfl, .iface ty h .nil, t⟩
  | agg h t => exact ⟨_, _, rfl, .agg h .nil, t⟩
  | tuple h t => exact ⟨_, _, rfl, .tuple h .nil, t⟩
theorem VRs.inv_nil {σ : Sg} {vs : List Value} (h : VRs σ [] vs) : vs = [] := by cases h; rfl
theorem VRs.len {σ : Sg} : ∀ {us vs : List Value}, VRs σ us vs → us.length = vs.length
  | [], vs, h => by rw [h.inv_nil]
  | x :: us, vs, h => by
    obtain ⟨y, vs', rfl, _, t⟩ := h.inv
    simp [t.len]
theorem VRs.append {σ : Sg} : ∀ {us vs xs ys : List Value}, VRs σ us vs → VRs σ xs ys → VRs σ (us ++ xs) (vs ++ ys)
  | [], vs, _, _, h, h' => by rw [h.inv_nil]; exact h'
  | x :: us, vs, _, _, h, h' => by
    obtain ⟨y, vs', rfl, hx, t⟩ := h.inv
    exact .cons hx (t.append h')
theorem VRs.get {σ : Sg} : ∀ {us vs : List Value} {i : Nat} {x : Value}, VRs σ us vs → us[i]? = some x → ∃ y, vs[i]? = some y ∧ VR σ x y
  | [], _, _, _, _, hx => by simp at hx
  | x :: us, vs, i, v, h, hx => by
    obtain ⟨y, vs', rfl, h1, t⟩ := h.inv
    cases i with
    | zero => simp only [List.getElem?_cons_zero, Option.some.injEq] at hx; subst hx; exact ⟨y, rfl, h1⟩
    | succ i => exact t.get (i := i) (by simpa using hx)
theorem VRs.of_get {σ : Sg} : ∀ {us vs : List Value}, us.length = vs.length → (∀ (i : Nat) (x : Value), us[i]? = some x → ∃ y, vs[i]? = some y ∧ VR σ x y) → VRs σ us vs
  | [], [], _, _ => .nil
  | [], _ :: _, h, _ => by simp at h
  | _ :: _, [], h, _ => by simp at h
  | x :: us, y :: vs, h, hg => by
    obtain ⟨y', hy, hxy⟩ := hg 0 x rfl
    simp only [List.getElem?_cons_zero, Option.some.injEq] at hy
    subst hy
    exact .cons hxy (VRs.of_get (by simpa using h) fun (i : Nat) (x : Value) hx => by simpa using hg (i + 1) x (by simpa using hx))
theorem VRs.drop {σ : Sg} : ∀ {us vs : List Value} (n : Nat), VRs σ us vs → VRs σ (us.drop n) (vs.drop n)
  | us, vs, 0, h => h
  | [], vs, n + 1, h => by rw [h.inv_nil]; exact .nil
  | x :: us, vs, n + 1, h => by
    obtain ⟨y, vs', rfl, _, t⟩ := h.inv
    exact t.drop n
theorem VRs.take {σ : Sg} : ∀ {us vs : List Value} (n : Nat), VRs σ us vs → VRs σ (us.take n) (vs.take n)
  | us, vs, 0, _ => .nil
  | [], vs, n + 1, h => by rw [h.inv_nil]; exact .nil
  | x :: us, vs, n + 1, h => by
    obtain ⟨y, vs', rfl, h1, t⟩ := h.inv
    exact .cons h1 (t.take n)
/-- More places are known. -/
def Sg.le (σ σ' : Sg) : Prop := ∀ id L, σ id = some L → σ' id = some L
theorem Sg.le.refl (σ : Sg) : σ.le σ := fun _ _ h => h
theorem Sg.le.trans {σ σ' σ'' : Sg} (h : σ.le σ') (h' : σ'.le σ'') : σ.le σ'' := fun _ _ e => h' _ _ (h _ _ e)
theorem VRs.mono {σ σ' : Sg} (hs : σ.le σ') {us vs : List Value} (h : VRs σ us vs) : VRs σ' us vs := by
  induction h with
  | nil => exact .nil
  | sc v h _ ih => exact .sc v h ih
  | ptr h _ ih => exact .ptr (hs _ _ h) ih
  | sl h _ ih => exact .sl (hs _ _ h) ih
  | slo h h1 h2 _ ih => exact .slo (hs _ _ h) h1 h2 ih
  | sle h h1 _ ih => exact .sle (hs _ _ h) h1 ih
  | map h _ ih => exact .map (hs _ _ h) ih
  | func f _ _ _ i1 i2 i3 => exact .func f i1 i2 i3
  | yld h _ ih => exact .yld (hs _ _ h) ih
  | iface ty _ _ i1 i2 => exact .iface ty i1 i2
  | agg _ _ i1 i2 => exact .agg i1 i2
  | tuple _ _ i1 i2 => exact .tuple i1 i2
/-- Values that name no place, to any depth. -/
noncomputable def flat1 (ih : List Value → Bool) : Value → Bool
  | .agg ⟨a⟩ => ih a
  | .tuple ⟨a⟩ => ih a
  | .iface _ x => ih [x]
  | .func (.func _) ⟨a⟩ ⟨b⟩ => ih a && ih b
  | v => scal v
noncomputable def flatN (n : Nat) : List Value → Bool :=
  @Nat.rec (fun _ => List Value → Bool) (fun _ => false) (fun _ ih l => @List.rec Value (fun _ => Bool) true (fun v us _ => bo (flat1 ih v) (ih us) false) l) n
theorem flatN_cons (n : Nat) (v : Value) (us : List Value) : flatN (n + 1) (v :: us) = bo (flat1 (flatN n) v) (flatN n us) false := rfl
theorem flatN_ok {σ : Sg} : ∀ (n : Nat) {us : List Value}, flatN n us = true → VRs σ us us
  | 0, us, h => by cases h
  | n + 1, [], _ => .nil
  | n + 1, v :: us, h => by
    rw [flatN_cons] at h
    cases hc : flat1 (flatN n) v with
    | false => rw [hc] at h; cases h
    | true =>
      rw [hc] at h
      have ht := flatN_ok (σ := σ) n (us := us) h
      unfold flat1 at hc
      split at hc
      · exact .agg (flatN_ok n hc) ht
      · exact .tuple (flatN_ok n hc) ht
      · exact .iface _ (flatN_ok n hc) ht
      · simp only [Bool.and_eq_true] at hc
        exact .func _ (flatN_ok n hc.1) (flatN_ok n hc.2) ht
      · exact .sc _ hc ht
theorem VRs.eq_of_flat {σ : Sg} : ∀ (n : Nat) {us vs : List Value}, flatN n us = true → VRs σ us vs → vs = us
  | 0, us, _, h, _ => by cases h
  | n + 1, [], _, _, h' => h'.inv_nil
  | n + 1, v :: us, vs, h, h' => by
    rw [flatN_cons] at h
    cases hc : flat1 (flatN n) v with
    | false => rw [hc] at h; cases h
    | true =>
      rw [hc] at h
      cases h' with
      | sc _ hs t => rw [t.eq_of_flat n h]
      | ptr hs t => cases hc
      | sl hs t => cases hc
      | slo hs _ _ t => cases hc
      | sle hs _ t => cases hc
      | map hs t => cases hc
      | yld hs t => cases hc
      | func f a b t =>
        rw [t.eq_of_flat n h]
        have hc' := Bool.and_eq_true_iff.1 hc
        rw [a.eq_of_flat n hc'.1, b.eq_of_flat n hc'.2]
      | iface ty a t =>
        rw [t.eq_of_flat n h]
        have := a.eq_of_flat n hc
        injection this with e1; rw [e1]
      | agg a t => rw [t.eq_of_flat n h, a.eq_of_flat n hc]
      | tuple a t => rw [t.eq_of_flat n h, a.eq_of_flat n hc]
/-- A value of one cell stands for one of one cell. -/
theorem VR.cells {σ : Sg} {x y : Value} (h : VR σ x y) : VRs σ x.cells.toList y.cells.toList := by
  cases h with
  | agg a _ => exact a
  | sc v hs _ => cases x <;> first | exact .sc _ hs .nil | cases hs
  | ptr hs _ => exact .ptr hs .nil
  | sl hs _ => exact .sl hs .nil
  | slo hs h1 h2 _ => exact .slo hs h1 h2 .nil
  | sle hs h1 _ => exact .sle hs h1 .nil
  | map hs _ => exact .map hs .nil
  | func f a b _ => exact .func f a b .nil
  | yld h _ => exact .yld h .nil
  | iface ty a _ => exact .iface ty a .nil
  | tuple a _ => exact .tuple a .nil
theorem VR.one {σ : Sg} {x y : Value} (h : VR σ x y) : x.oneCell' = y.oneCell' := by
  cases h <;> rfl
theorem VRs.one {σ : Sg} : ∀ {us vs : List Value}, VRs σ us vs → us.all (·.oneCell') = true → ∀ v ∈ vs, v.oneCell' = true
  | [], vs, h, _ => by rw [h.inv_nil]; simp
  | x :: us, vs, h, ha => by
    obtain ⟨y, vs', rfl, h1, t⟩ := h.inv
    simp only [List.all_cons, Bool.and_eq_true] at ha
    intro v hv
    rcases List.mem_cons.1 hv with rfl | hv
    · rw [← h1.one]; exact ha.1
    · exact t.one ha.2 v hv

/-- A numbered block: a row's first n cells (k = 2: only read), a map's entries (and when each was born), a string or a map that is ranged over, the record of a range over a function. -/
inductive Bl where
  | cells (elem n k : Nat) (c : Tb Value)
  | map (clock : Nat) (bs : List Nat) (l : List (Value × Value))
  | iter (s : ByteArray) (pos : Nat)
  | miter (m : Option Nat) (since : Nat) (seen : List Nat) (last : Nat)
  | loop (st n : Nat) (e : Tb Value) (ps : List Nat) (asg body : Code) (pend : Option (Option Nat))
/-- A block that is looked at. -/
noncomputable def blS {β : Type} (B : Bl) (f : Bl → β) : β :=
  match B with
  | .cells el n k c => natS n (fun n => f (.cells el n k c))
  | B => f B
theorem blS_eq {β : Type} (B : Bl) (f : Bl → β) : blS B f = f B := by
  unfold blS
  split
  · rw [natS_eq]
  · rfl
abbrev Hp := Tb Bl
/-- Where a range over a function stands. -/
def lpSt : Nat → LoopState
  | 0 => .ready
  | 1 => .busy
  | 2 => .done
  | _ => .exhausted
/-- How a round was left. -/
def jumpC : Option Nat → Code
  | none => .ret
  | some id => .exit id

def BR (σ : Sg) (L : Loc) (w : World) : Bl → Prop
  | .cells elem n k c => ∃ (row : Array Value) (fz : Nat × Nat), w.heap[L.blk]? = some (.cells row elem fz) ∧ row.size = L.size ∧ L.base + n ≤ L.size ∧ (∀ i, (c.get i).isSome = true ↔ i < n) ∧
      (∀ i v, c.get i = some v → ∃ u, row[L.base + i]? = some u ∧ VR σ v u) ∧ (k ≠ 2 → fz.1 = fz.2 ∨ L.size ≤ fz.1)
  | .map clock bs l => ∃ es : Array MapEntry, w.heap[L.blk]? = some (.map es clock) ∧ VRs σ (l.map (·.1)) (es.toList.map (·.key)) ∧ VRs σ (l.map (·.2)) (es.toList.map (·.val)) ∧ es.toList.map (·.born) = bs
  | .iter s pos => L.base = 0 ∧ w.heap[L.blk]? = some (.stringIter s pos)
  | .miter m since seen last => L.base = 0 ∧ ∃ r, (∀ id, m = some id → ∃ L', σ id = some L' ∧ r = some L'.blk) ∧ (m = none → r = none) ∧ w.heap[L.blk]? = some (.mapIter r since ⟨seen⟩ last)
  | .loop st n e ps asg body pend => L.base = 0 ∧ ∃ r : Loop, w.heap[L.blk]? = some (.loop r) ∧ r.state = lpSt st ∧ r.tmps.size = n ∧ (∀ k v, e.get k = some v → ∃ u, r.tmps[k]? = some u ∧ VR σ v u) ∧ r.params.toList = ps ∧ r.assign = asg ∧ r.body = body ∧ r.pending = pend.map jumpC
theorem BR.lt {σ : Sg} {L : Loc} {w : World} {B : Bl} (h : BR σ L w B) : L.blk < w.heap.size := by
  cases B with
  | cells elem n k c => obtain ⟨row, fz, h, _⟩ := h; exact (Array.getElem?_eq_some_iff.1 h).1
  | map cl bs l => obtain ⟨es, h, _⟩ := h; exact (Array.getElem?_eq_some_iff.1 h).1
  | iter s p => exact (Array.getElem?_eq_some_iff.1 h.2).1
  | miter m a b c => obtain ⟨_, r, _, _, h⟩ := h; exact (Array.getElem?_eq_some_iff.1 h).1
  | loop st n e ps asg body pend => obtain ⟨_, r, h, _⟩ := h; exact (Array.getElem?_eq_some_iff.1 h).1
theorem BR.keep {σ σ' : Sg} {L : Loc} {w w' : World} {B : Bl} (h : BR σ L w B) (hs : σ.le σ') (hb : w'.heap[L.blk]? = w.heap[L.blk]?) : BR σ' L w' B := by
  cases B with
  | cells elem n k c =>
    obtain ⟨row, fz, h0, h1, h2, h3, h4, h5⟩ := h
    exact ⟨row, fz, hb.trans h0, h1, h2, h3, fun i v hv => let ⟨u, hu, hr⟩ := h4 i v hv; ⟨u, hu, hr.mono hs⟩, h5⟩
  | map cl bs l =>
    obtain ⟨es, h0, h1, h2, h3⟩ := h
    exact ⟨es, hb.trans h0, h1.mono hs, h2.mono hs, h3⟩
  | iter s p => exact ⟨h.1, hb.trans h.2⟩
  | miter m a b c =>
    obtain ⟨h0, r, h1, h2, h3⟩ := h
    exact ⟨h0, r, fun id hi => let ⟨L', h4, h5⟩ := h1 id hi; ⟨L', hs _ _ h4, h5⟩, h2, hb.trans h3⟩
  | loop st n e ps asg body pend =>
    obtain ⟨h0, r, h1, h2, h3, h4, h5⟩ := h
    exact ⟨h0, r, hb.trans h1, h2, h3, fun k v hk => let ⟨u, hu, hr⟩ := h4 k v hk; ⟨u, hu, hr.mono hs⟩, h5⟩

abbrev Hf := Nat → Option Bl
/-- A block that is only read. -/
def Bl.ro : Bl → Prop
  | .cells _ _ k _ => k = 2
  | _ => False
/-- Whoever lives at a row is only read. -/
def Quiet (h : Hf) (σ : Sg) (r : Nat) : Prop := ∀ id L B, h id = some B → σ id = some L → L.blk = r → B.ro
/-- The memory of the machine stands for the model's. nx: numbers from here on are free; G: this many package-level variables have their own numbers. -/
structure MR (G : Nat) (σ : Sg) (h : Hf) (nx : Nat) (w : World) : Prop where
  blk : ∀ id B, h id = some B → ∃ L, σ id = some L ∧ BR σ L w B
  sep : ∀ id id' L L', (h id).isSome = true → (h id').isSome = true → σ id = some L → σ id' = some L' → L.blk = L'.blk → id = id'
  free : ∀ id, nx ≤ id → σ id = none
  glob : ∀ g, g < G → ∃ n, σ g = some ⟨g, 0, n⟩
  gle : G ≤ nx
/-- A step of the machine stands for a step of the model. -/
structure Tr (G : Nat) (σ : Sg) (h : Hf) (nx : Nat) (w : World) (σ' : Sg) (h' : Hf) (nx' : Nat) (w' : World) : Prop where
  le : nx ≤ nx'
  ext : σ.le σ'
  old : ∀ id, id < nx → σ' id = σ id
  mr : MR G σ' h' nx' w'
  os : w'.os = w.os
  tape : w'.tape = w.tape
  output : w'.output = w.output
  size : w.heap.size ≤ w'.heap.size
  fr : ∀ r, r < w.heap.size → (∀ id L, (h id).isSome = true → σ id = some L → L.blk ≠ r) → w'.heap[r]? = w.heap[r]?
  src : ∀ id L', (h' id).isSome = true → σ' id = some L' → w.heap.size ≤ L'.blk ∨ ∃ id0 L0, (h id0).isSome = true ∧ σ id0 = some L0 ∧ L0.blk = L'.blk
  dom : ∀ id, id < nx → h id = none → h' id = none
  qt : ∀ r, r < w.heap.size → Quiet h σ r → w'.heap[r]? = w.heap[r]? ∧ Quiet h' σ' r
theorem Tr.refl {G : Nat} {σ : Sg} {h : Hf} {nx : Nat} {w : World} (m : MR G σ h nx w) : Tr G σ h nx w σ h nx w :=
  ⟨Nat.le_refl _, Sg.le.refl σ, fun _ _ => rfl, m, rfl, rfl, rfl, Nat.le_refl _, fun _ _ _ => rfl, fun id L' hi hs => .inr ⟨id, L', hi, hs, rfl⟩, fun _ _ h => h, fun _ _ hq => ⟨rfl, hq⟩⟩
theorem Tr.trans {G : Nat} {σ σ' σ'' : Sg} {h h' h'' : Hf} {nx nx' nx'' : Nat} {w w' w'' : World} (a : Tr G σ h nx w σ' h' nx' w') (b : Tr G σ' h' nx' w' σ'' h'' nx'' w'') : Tr G σ h nx w σ'' h'' nx'' w'' where
  le := Nat.le_trans a.le b.le
  ext := a.ext.trans b.ext
  old id hi := (b.old id (Nat.lt_of_lt_of_le hi a.le)).trans (a.old id hi)
  mr := b.mr
  os := b.os.trans a.os
  tape := b.tape.trans a.tape
  output := b.output.trans a.output
  size := Nat.le_trans a.size b.size
  fr r hr hn := by
    refine (b.fr r (Nat.lt_of_lt_of_le hr a.size) fun id L hi hs e => ?_).trans (a.fr r hr hn)
    rcases a.src id L hi hs with h1 | ⟨id0, L0, h1, h2, h3⟩
    · omega
    · exact hn id0 L0 h1 h2 (h3.trans e)
  src id L hi hs := by
    rcases b.src id L hi hs with h1 | ⟨id0, L0, h1, h2, h3⟩
    · exact .inl (Nat.le_trans a.size h1)
    · rcases a.src id0 L0 h1 h2 with h4 | ⟨id1, L1, h4, h5, h6⟩
      · exact .inl (by omega)
      · exact .inr ⟨id1, L1, h4, h5, h6.trans h3⟩
  dom id hi hn := b.dom id (Nat.lt_of_lt_of_le hi a.le) (a.dom id hi hn)
  qt r hr hq := by
    obtain ⟨h1, h2⟩ := a.qt r hr hq
    obtain ⟨h3, h4⟩ := b.qt r (Nat.lt_of_lt_of_le hr a.size) h2
    exact ⟨h3.trans h1, h4⟩
theorem Tr.drew {G : Nat} {σ σ' : Sg} {h h' : Hf} {nx nx' : Nat} {w w' : World} (a : Tr G σ h nx w.drew σ' h' nx' w') : Tr G σ h nx w σ' h' nx' w' :=
  ⟨a.le, a.ext, a.old, a.mr, a.os, a.tape, a.output, a.size, a.fr, a.src, a.dom, a.qt⟩
theorem BR.drew {σ : Sg} {L : Loc} {w : World} {B : Bl} (h : BR σ L w B) : BR σ L w.drew B := h.keep (Sg.le.refl σ) rfl
theorem MR.drew {G : Nat} {σ : Sg} {h : Hf} {nx : Nat} {w : World} (m : MR G σ h nx w) : MR G σ h nx w.drew :=
  ⟨fun id B hb => let ⟨L, h1, h2⟩ := m.blk id B hb; ⟨L, h1, h2.drew⟩, m.sep, m.free, m.glob, m.gle⟩
end Go.Proofs.YtklciidffdnglaaDoor
