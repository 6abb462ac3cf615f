/- A machine that runs closed code in the kernel: its memory (numbered blocks, whose places in the model's memory are left open), and what it means. Over any program. No condition. -/
import Derived.Test.YteecfaiabachbaaGreatDoorBase2
namespace Go.Proofs.YteecfaiabachbaaGreatDoor
open Go.RowKit

/-- One of two, one step for the kernel. -/
noncomputable def bo {α : Type} (b : Bool) (t f : α) : α := @Bool.rec (fun _ => α) f t b
theorem bo_true {α : Type} (t f : α) : bo true t f = t := rfl
theorem bo_false {α : Type} (t f : α) : bo false t f = f := rfl
noncomputable def oo {α β : Type} (x : Option α) (n : β) (s : α → β) : β := @Option.rec α (fun _ => β) n s x
theorem oo_some {α β : Type} (v : α) (n : β) (s : α → β) : oo (some v) n s = s v := rfl
theorem oo_none {α β : Type} (n : β) (s : α → β) : oo none n s = n := rfl
theorem bo_inv {α : Type} {b : Bool} {t f r : α} (h : bo b t f = r) (hf : f ≠ r) : b = true ∧ t = r := by
  cases b with
  | true => exact ⟨rfl, h⟩
  | false => exact absurd h hf
theorem oo_inv {α β : Type} {x : Option α} {n : β} {s : α → β} {r : β} (h : oo x n s = r) (hn : n ≠ r) : ∃ v, x = some v ∧ s v = r := by
  cases x with
  | none => exact absurd h hn
  | some v => exact ⟨v, rfl, h⟩

/-- A table by numbers: four ways at each place. -/
inductive Tb (α : Type) where
  | lf
  | nd (o : Option α) (a b c d : Tb α)
/-- A number's way into a table. -/
inductive Ky where
  | e
  | a (k : Ky)
  | b (k : Ky)
  | c (k : Ky)
  | d (k : Ky)
  deriving DecidableEq
noncomputable def keyR (r : Nat) (k : Ky) : Ky := bo (Nat.beq r 0) (.a k) (bo (Nat.beq r 1) (.b k) (bo (Nat.beq r 2) (.c k) (.d k)))
noncomputable def pathN (n : Nat) : Nat → Ky :=
  @Nat.rec (fun _ => Nat → Ky) (fun _ => .e) (fun _ ih k => bo (Nat.beq k 0) .e (keyR (Nat.mod (Nat.pred k) 4) (ih (Nat.div (Nat.pred k) 4)))) n
noncomputable def path (k : Nat) : Ky := pathN k k
/-- The number of a way. -/
def unpath : Ky → Nat
  | .e => 0
  | .a r => 4 * unpath r + 1
  | .b r => 4 * unpath r + 2
  | .c r => 4 * unpath r + 3
  | .d r => 4 * unpath r + 4
theorem unpath_keyR (r : Nat) (k : Ky) (hr : r < 4) : unpath (keyR r k) = 4 * unpath k + r + 1 := by
  match r, hr with
  | 0, _ => rfl
  | 1, _ => rfl
  | 2, _ => rfl
  | 3, _ => rfl
theorem unpath_pathN : ∀ (n k : Nat), k ≤ n → unpath (pathN n k) = k
  | 0, k, h => by
    obtain rfl : k = 0 := by omega
    rfl
  | n + 1, k, h => by
    show unpath (bo (Nat.beq k 0) .e (keyR (Nat.mod (Nat.pred k) 4) (pathN n (Nat.div (Nat.pred k) 4)))) = k
    have e1 : Nat.mod (Nat.pred k) 4 = (k - 1) % 4 := rfl
    have e2 : Nat.div (Nat.pred k) 4 = (k - 1) / 4 := rfl
    rw [e1, e2]
    cases h0 : Nat.beq k 0 with
    | true => have := Nat.eq_of_beq_eq_true h0; subst this; rfl
    | false =>
      have hk : k ≠ 0 := fun e => by subst e; simp at h0
      rw [bo_false, unpath_keyR _ _ (Nat.mod_lt _ (by omega)), unpath_pathN n _ (by omega)]
      omega
theorem path_inj {k j : Nat} (h : path k = path j) : k = j := by
  have h1 := unpath_pathN k k (Nat.le_refl k)
  have h2 := unpath_pathN j j (Nat.le_refl j)
  unfold path at h
  rw [← h1, h, h2]
namespace Tb
variable {α : Type}
noncomputable def getP (p : Ky) : Tb α → Option α :=
  @Ky.rec (fun _ => Tb α → Option α) (fun t => @Tb.rec α (fun _ => Option α) none (fun o _ _ _ _ _ _ _ _ => o) t) (fun _ ih t => @Tb.rec α (fun _ => Option α) none (fun _ a _ _ _ _ _ _ _ => ih a) t) (fun _ ih t => @Tb.rec α (fun _ => Option α) none (fun _ _ b _ _ _ _ _ _ => ih b) t)
    (fun _ ih t => @Tb.rec α (fun _ => Option α) none (fun _ _ _ c _ _ _ _ _ => ih c) t) (fun _ ih t => @Tb.rec α (fun _ => Option α) none (fun _ _ _ _ d _ _ _ _ => ih d) t) p
noncomputable def putP (v : Option α) (p : Ky) : Tb α → Tb α :=
  @Ky.rec (fun _ => Tb α → Tb α) (fun t => @Tb.rec α (fun _ => Tb α) (.nd v .lf .lf .lf .lf) (fun _ a b c d _ _ _ _ => .nd v a b c d) t) (fun _ ih t => @Tb.rec α (fun _ => Tb α) (.nd none (ih .lf) .lf .lf .lf) (fun o a b c d _ _ _ _ => .nd o (ih a) b c d) t)
    (fun _ ih t => @Tb.rec α (fun _ => Tb α) (.nd none .lf (ih .lf) .lf .lf) (fun o a b c d _ _ _ _ => .nd o a (ih b) c d) t) (fun _ ih t => @Tb.rec α (fun _ => Tb α) (.nd none .lf .lf (ih .lf) .lf) (fun o a b c d _ _ _ _ => .nd o a b (ih c) d) t)
    (fun _ ih t => @Tb.rec α (fun _ => Tb α) (.nd none .lf .lf .lf (ih .lf)) (fun o a b c d _ _ _ _ => .nd o a b c (ih d)) t) p
theorem getP_lf (p : Ky) : getP p (Tb.lf : Tb α) = none := by cases p <;> rfl
theorem getP_putP (v : Option α) : ∀ (p : Ky) (t : Tb α) (q : Ky), getP q (putP v p t) = if q = p then v else getP q t
  | .e, .lf, .e => rfl
  | .e, .nd _ _ _ _ _, .e => rfl
  | .e, .nd _ _ _ _ _, .a _ => by simp; rfl
  | .e, .nd _ _ _ _ _, .b _ => by simp; rfl
  | .e, .nd _ _ _ _ _, .c _ => by simp; rfl
  | .e, .nd _ _ _ _ _, .d _ => by simp; rfl
  | .e, .lf, .a q => by rw [getP_lf]; simp; exact getP_lf q
  | .e, .lf, .b q => by rw [getP_lf]; simp; exact getP_lf q
  | .e, .lf, .c q => by rw [getP_lf]; simp; exact getP_lf q
  | .e, .lf, .d q => by rw [getP_lf]; simp; exact getP_lf q
  | .a p, .lf, .e => rfl
  | .a p, .lf, .a q => by refine (getP_putP v p .lf q).trans ?_; by_cases e : q = p <;> simp [e, getP_lf]
  | .a p, .lf, .b q => by rw [getP_lf]; simp; exact getP_lf q
  | .a p, .lf, .c q => by rw [getP_lf]; simp; exact getP_lf q
  | .a p, .lf, .d q => by rw [getP_lf]; simp; exact getP_lf q
  | .b p, .lf, .e => rfl
  | .b p, .lf, .b q => by refine (getP_putP v p .lf q).trans ?_; by_cases e : q = p <;> simp [e, getP_lf]
  | .b p, .lf, .a q => by rw [getP_lf]; simp; exact getP_lf q
  | .b p, .lf, .c q => by rw [getP_lf]; simp; exact getP_lf q
  | .b p, .lf, .d q => by rw [getP_lf]; simp; exact getP_lf q
  | .c p, .lf, .e => rfl
  | .c p, .lf, .c q => by refine (getP_putP v p .lf q).trans ?_; by_cases e : q = p <;> simp [e, getP_lf]
  | .c p, .lf, .a q => by rw [getP_lf]; simp; exact getP_lf q
  | .c p, .lf, .b q => by rw [getP_lf]; simp; exact getP_lf q
  | .c p, .lf, .d q => by rw [getP_lf]; simp; exact getP_lf q
  | .d p, .lf, .e => rfl
  | .d p, .lf, .d q => by refine (getP_putP v p .lf q).trans ?_; by_cases e : q = p <;> simp [e, getP_lf]
  | .d p, .lf, .a q => by rw [getP_lf]; simp; exact getP_lf q
  | .d p, .lf, .b q => by rw [getP_lf]; simp; exact getP_lf q
  | .d p, .lf, .c q => by rw [getP_lf]; simp; exact getP_lf q
  | .a p, .nd _ x _ _ _, .a q => by
    refine (getP_putP v p x q).trans ?_
    by_cases e : q = p
    · simp [e]
    · simp [e]; rfl
  | .a p, .nd _ _ _ _ _, .e => rfl
  | .a p, .nd _ _ _ _ _, .b q => by simp; rfl
  | .a p, .nd _ _ _ _ _, .c q => by simp; rfl
  | .a p, .nd _ _ _ _ _, .d q => by simp; rfl
  | .b p, .nd _ _ x _ _, .b q => by
    refine (getP_putP v p x q).trans ?_
    by_cases e : q = p
    · simp [e]
    · simp [e]; rfl
  | .b p, .nd _ _ _ _ _, .e => rfl
  | .b p, .nd _ _ _ _ _, .a q => by simp; rfl
  | .b p, .nd _ _ _ _ _, .c q => by simp; rfl
  | .b p, .nd _ _ _ _ _, .d q => by simp; rfl
  | .c p, .nd _ _ _ x _, .c q => by
    refine (getP_putP v p x q).trans ?_
    by_cases e : q = p
    · simp [e]
    · simp [e]; rfl
  | .c p, .nd _ _ _ _ _, .e => rfl
  | .c p, .nd _ _ _ _ _, .a q => by simp; rfl
  | .c p, .nd _ _ _ _ _, .b q => by simp; rfl
  | .c p, .nd _ _ _ _ _, .d q => by simp; rfl
  | .d p, .nd _ _ _ _ x, .d q => by
    refine (getP_putP v p x q).trans ?_
    by_cases e : q = p
    · simp [e]
    · simp [e]; rfl
  | .d p, .nd _ _ _ _ _, .e => rfl
  | .d p, .nd _ _ _ _ _, .a q => by simp; rfl
  | .d p, .nd _ _ _ _ _, .b q => by simp; rfl
  | .d p, .nd _ _ _ _ _, .c q => by simp; rfl
noncomputable def get (t : Tb α) (k : Nat) : Option α := getP (path k) t
noncomputable def put (t : Tb α) (k : Nat) (v : α) : Tb α := putP (some v) (path k) t
noncomputable def del (t : Tb α) (k : Nat) : Tb α := putP none (path k) t
theorem get_lf (k : Nat) : (Tb.lf : Tb α).get k = none := getP_lf _
theorem get_put (t : Tb α) (k : Nat) (v : α) (j : Nat) : (t.put k v).get j = if j = k then some v else t.get j := by
  unfold get put
  rw [getP_putP]
  by_cases h : j = k
  · simp [h]
  · rw [if_neg h, if_neg (fun e => h (path_inj e))]
theorem get_del (t : Tb α) (k : Nat) (j : Nat) : (t.del k).get j = if j = k then none else t.get j := by
  unfold get del
  rw [getP_putP]
  by_cases h : j = k
  · simp [h]
  · rw [if_neg h, if_neg (fun e => h (path_inj e))]
theorem get_put_same (t : Tb α) (k : Nat) (v : α) : (t.put k v).get k = some v := by rw [get_put]; simp
end Tb
/-- A list, dealt to four. -/
structure Q4 (α : Type) where
  a : List α
  b : List α
  c : List α
  d : List α
noncomputable def deal {α : Type} (l : List α) : Q4 α := @List.rec α (fun _ => Q4 α) ⟨[], [], [], []⟩ (fun x _ ih => ⟨x :: ih.d, ih.a, ih.b, ih.c⟩) l
theorem deal_get {α : Type} : ∀ (l : List α) (i : Nat), (deal l).a[i]? = l[4 * i]? ∧ (deal l).b[i]? = l[4 * i + 1]? ∧ (deal l).c[i]? = l[4 * i + 2]? ∧ (deal l).d[i]? = l[4 * i + 3]?
  | [], i => by simp [deal]
  | x :: l, i => by
    have e : deal (x :: l) = ⟨x :: (deal l).d, (deal l).a, (deal l).b, (deal l).c⟩ := rfl
    obtain ⟨h1, h2, h3, _⟩ := deal_get l i
    rw [e]
    refine ⟨?_, ?_, ?_, ?_⟩
    · cases i with
      | zero => rfl
      | succ i =>
        obtain ⟨_, _, _, h4⟩ := deal_get l i
        show (x :: (deal l).d)[i + 1]? = _
        rw [List.getElem?_cons_succ, h4, show 4 * (i + 1) = 4 * i + 3 + 1 by omega, List.getElem?_cons_succ]
    · rw [List.getElem?_cons_succ]; exact h1
    · rw [List.getElem?_cons_succ]; exact h2
    · rw [List.getElem?_cons_succ]; exact h3
theorem deal_length {α : Type} : ∀ (l : List α), (deal l).a.length ≤ l.length ∧ (deal l).b.length ≤ l.length ∧ (deal l).c.length ≤ l.length ∧ (deal l).d.length ≤ l.length
  | [] => by simp [deal]
  | x :: l => by
    have e : deal (x :: l) = ⟨x :: (deal l).d, (deal l).a, (deal l).b, (deal l).c⟩ := rfl
    have := deal_length l
    rw [e]
    simp only [List.length_cons]
    omega
noncomputable def Tb.ofN {α : Type} (n : Nat) : List α → Tb α :=
  @Nat.rec (fun _ => List α → Tb α) (fun _ => .lf) (fun _ ih l => @List.rec α (fun _ => Tb α) .lf (fun x r _ => .nd (some x) (ih (deal r).a) (ih (deal r).b) (ih (deal r).c) (ih (deal r).d)) l) n
noncomputable def Tb.of {α : Type} (l : List α) : Tb α := Tb.ofN l.length l
theorem Tb.getP_ofN {α : Type} : ∀ (n : Nat) (l : List α) (p : Ky), l.length ≤ n → Tb.getP p (Tb.ofN n l) = l[unpath p]?
  | 0, l, p, h => by
    obtain rfl : l = [] := List.eq_nil_of_length_eq_zero (by omega)
    show Tb.getP p (Tb.lf : Tb α) = _
    simp [Tb.getP_lf]
  | n + 1, [], p, _ => by
    show Tb.getP p (Tb.lf : Tb α) = _
    simp [Tb.getP_lf]
  | n + 1, x :: r, p, h => by
    obtain ⟨h1, h2, h3, h4⟩ := deal_length r
    simp only [List.length_cons] at h
    cases p with
    | e => rfl
    | a p =>
      show Tb.getP p (Tb.ofN n (deal r).a) = _
      rw [Tb.getP_ofN n _ p (by omega), (deal_get r _).1]; rfl
    | b p =>
      show Tb.getP p (Tb.ofN n (deal r).b) = _
      rw [Tb.getP_ofN n _ p (by omega), (deal_get r _).2.1]; rfl
    | c p =>
      show Tb.getP p (Tb.ofN n (deal r).c) = _
      rw [Tb.getP_ofN n _ p (by omega), (deal_get r _).2.2.1]; rfl
    | d p =>
      show Tb.getP p (Tb.ofN n (deal r).d) = _
      rw [Tb.getP_ofN n _ p (by omega), (deal_get r _).2.2.2]; rfl
theorem Tb.get_of {α : Type} (l : List α) (k : Nat) : (Tb.of l).get k = l[k]? := by
  unfold Tb.of Tb.get
  rw [Tb.getP_ofN _ l _ (Nat.le_refl _)]
  unfold path
  rw [unpath_pathN k k (Nat.le_refl k)]
/-- n times the same. -/
noncomputable def Tb.repN {α : Type} (v : α) (m : Nat) : Nat → Tb α :=
  @Nat.rec (fun _ => Nat → Tb α) (fun _ => .lf) (fun _ ih n => bo (Nat.beq n 0) .lf (.nd (some v) (ih (Nat.div (Nat.add n 2) 4)) (ih (Nat.div (Nat.add n 1) 4)) (ih (Nat.div n 4)) (ih (Nat.div (Nat.pred n) 4)))) m
theorem Tb.getP_repN {α : Type} (v : α) : ∀ (m n : Nat) (p : Ky), n ≤ m → Tb.getP p (Tb.repN v m n) = (List.replicate n v)[unpath p]?
  | 0, n, p, h => by
    obtain rfl : n = 0 := by omega
    show Tb.getP p (Tb.lf : Tb α) = _
    simp [Tb.getP_lf]
  | m + 1, n, p, h => by
    show Tb.getP p (bo (Nat.beq n 0) (Tb.lf : Tb α) (Tb.nd (some v) (Tb.repN v m ((n + 2) / 4)) (Tb.repN v m ((n + 1) / 4)) (Tb.repN v m (n / 4)) (Tb.repN v m ((n - 1) / 4)))) = _
    cases h0 : Nat.beq n 0 with
    | true => have := Nat.eq_of_beq_eq_true h0; subst this; rw [bo_true]; simp [Tb.getP_lf]
    | false =>
      have hn : n ≠ 0 := fun e => by subst e; simp at h0
      rw [bo_false]
      have fin : ∀ (k i : Nat) (p : Ky), k ≤ m → (unpath p < k ↔ i < n) → Tb.getP p (Tb.repN v m k) = (List.replicate n v)[i]? := fun k i p hk hi => by
        rw [Tb.getP_repN v m _ p hk, List.getElem?_replicate, List.getElem?_replicate]
        by_cases hh : i < n
        · rw [if_pos hh, if_pos (hi.2 hh)]
        · rw [if_neg hh, if_neg (fun h' => hh (hi.1 h'))]
      cases p with
      | e => show some v = _; rw [List.getElem?_replicate, if_pos (show unpath .e < n from Nat.pos_of_ne_zero hn)]
      | a p => exact fin _ _ p (by omega) (by show _ ↔ 4 * unpath p + 1 < n; omega)
      | b p => exact fin _ _ p (by omega) (by show _ ↔ 4 * unpath p + 2 < n; omega)
      | c p => exact fin _ _ p (by omega) (by show _ ↔ 4 * unpath p + 3 < n; omega)
      | d p => exact fin _ _ p (by omega) (by show _ ↔ 4 * unpath p + 4 < n; omega)
theorem Tb.get_repN {α : Type} (v : α) (n k : Nat) : (Tb.repN v n n).get k = (List.replicate n v)[k]? := by
  unfold Tb.get
  rw [Tb.getP_repN v n n _ (Nat.le_refl _)]
  unfold path
  rw [unpath_pathN k k (Nat.le_refl k)]

/-- The same at once: what is written is looked at, so that no work is left behind. -/
noncomputable def putC {α β : Type} (v : Option α) (p : Ky) : Tb α → (Tb α → β) → β :=
  @Ky.rec (fun _ => Tb α → (Tb α → β) → β) (fun t f => @Tb.rec α (fun _ => β) (f (.nd v .lf .lf .lf .lf)) (fun _ a b c d _ _ _ _ => f (.nd v a b c d)) t)
    (fun _ ih t f => @Tb.rec α (fun _ => β) (ih .lf (fun x => f (.nd none x .lf .lf .lf))) (fun o a b c d _ _ _ _ => ih a (fun x => f (.nd o x b c d))) t)
    (fun _ ih t f => @Tb.rec α (fun _ => β) (ih .lf (fun x => f (.nd none .lf x .lf .lf))) (fun o a b c d _ _ _ _ => ih b (fun x => f (.nd o a x c d))) t)
    (fun _ ih t f => @Tb.rec α (fun _ => β) (ih .lf (fun x => f (.nd none .lf .lf x .lf))) (fun o a b c d _ _ _ _ => ih c (fun x => f (.nd o a b x d))) t)
    (fun _ ih t f => @Tb.rec α (fun _ => β) (ih .lf (fun x => f (.nd none .lf .lf .lf x))) (fun o a b c d _ _ _ _ => ih d (fun x => f (.nd o a b c x))) t) p
theorem putC_eq {α β : Type} (v : Option α) : ∀ (p : Ky) (t : Tb α) (f : Tb α → β), putC v p t f = f (Tb.putP v p t)
  | .e, .lf, _ => rfl
  | .e, .nd _ _ _ _ _, _ => rfl
  | .a p, .lf, _ => putC_eq v p .lf _
  | .a p, .nd _ a _ _ _, _ => putC_eq v p a _
  | .b p, .lf, _ => putC_eq v p .lf _
  | .b p, .nd _ _ b _ _, _ => putC_eq v p b _
  | .c p, .lf, _ => putC_eq v p .lf _
  | .c p, .nd _ _ _ c _, _ => putC_eq v p c _
  | .d p, .lf, _ => putC_eq v p .lf _
  | .d p, .nd _ _ _ _ d, _ => putC_eq v p d _
noncomputable def putS {α β : Type} (t : Tb α) (k : Nat) (v : α) (f : Tb α → β) : β := putC (some v) (path k) t f
theorem putS_eq {α β : Type} (t : Tb α) (k : Nat) (v : α) (f : Tb α → β) : putS t k v f = f (t.put k v) := putC_eq _ _ _ _
noncomputable def delS {α β : Type} (t : Tb α) (k : Nat) (f : Tb α → β) : β := putC none (path k) t f
theorem delS_eq {α β : Type} (t : Tb α) (k : Nat) (f : Tb α → β) : delS t k f = f (t.del k) := putC_eq _ _ _ _
noncomputable def allS {α β : Type} (t : Tb α) : (Tb α → β) → β :=
  @Tb.rec α (fun _ => (Tb α → β) → β) (fun f => f .lf) (fun o _ _ _ _ ia ib ic id f => ia (fun a => ib (fun b => ic (fun c => id (fun d => f (.nd o a b c d)))))) t
theorem allS_eq {α β : Type} : ∀ (t : Tb α) (f : Tb α → β), allS t f = f t
  | .lf, _ => rfl
  | .nd o a b c d, f => by
    show allS a (fun a => allS b (fun b => allS c (fun c => allS d (fun d => f (.nd o a b c d))))) = _
    rw [allS_eq a, allS_eq b, allS_eq c, allS_eq d]
noncomputable def natS {β : Type} (n : Nat) (f : Nat → β) : β := @Nat.rec (fun _ => β) (f 0) (fun m _ => f (Nat.succ m)) n
theorem natS_eq {β : Type} (n : Nat) (f : Nat → β) : natS n f = f n := by cases n <;> rfl
noncomputable def listS {α β : Type} (l : List α) : (List α → β) → β := @List.rec α (fun _ => (List α → β) → β) (fun f => f []) (fun x _ ih f => ih (fun l => f (x :: l))) l
theorem listS_eq {α β : Type} : ∀ (l : List α) (f : List α → β), listS l f = f l
  | [], _ => rfl
  | x :: l, f => by
    show listS l (fun l => f (x :: l)) = _
    rw [listS_eq l]
/-- A value whose numbers are looked at. -/
noncomputable def valS {β : Type} (v : Value) (f : Value → β) : β :=
  match v with
  | .int k (.ofNat m) => natS m (fun m => f (.int k (.ofNat m)))
  | .int k (.negSucc m) => natS m (fun m => f (.int k (.negSucc m)))
  | .bool b => bo b (f (.bool true)) (f (.bool false))
  | .pointer (some ⟨id, off, sp⟩) => natS off (fun off => f (.pointer (some ⟨id, off, sp⟩)))
  | .slice (some ⟨id, off, sp⟩) n c => natS off (fun off => natS n (fun n => natS c (fun c => f (.slice (some ⟨id, off, sp⟩) n c))))
  | v => f v
theorem valS_eq {β : Type} (v : Value) (f : Value → β) : valS v f = f v := by
  unfold valS
  split
  · rw [natS_eq]
  · rw [natS_eq]
  · rename_i b; cases b <;> rfl
  · rw [natS_eq]
  · rw [natS_eq, natS_eq, natS_eq]
  · rfl

/-- Where a numbered block lies: its row, the first cell, the row's size. -/
structure Loc where
  blk : Nat
  base : Nat
  size : Nat
abbrev Sg := Nat → Option Loc

/-- A value that names no place in memory. -/
def scal : Value → Bool
  | .bool _ | .int _ _ | .float _ _ | .complex _ _ _ | .string _ | .pointer none | .slice none _ _ | .map none | .nilFunc | .nilIface => true
  | _ => false
/-- Values of the machine stand for values of the model, one by one. A slice whose address bears a spot z is open: its capacity, of elements of z cells, reaches to the row's end; of one that bears capacity 1 it is only known that it is empty. -/
inductive VRs (σ : Sg) : List Value → List Value → Prop
  | nil : VRs σ [] []
  | sc {us vs : List Value} (v : Value) : scal v = true → VRs σ us vs → VRs σ (v :: us) (v :: vs)
  | ptr {us vs : List Value} {id off : Nat} {L : Loc} : σ id = some L → VRs σ us vs → VRs σ (.pointer (some ⟨id, off, none⟩) :: us) (.pointer (some ⟨L.blk, L.base + off, none⟩) :: vs)
  | sl {us vs : List Value} {id off n c : Nat} {L : Loc} : σ id = some L → VRs σ us vs → VRs σ (.slice (some ⟨id, off, none⟩) n c :: us) (.slice (some ⟨L.blk, L.base + off, none⟩) n c :: vs)
  | slo {us vs : List Value} {id off n c z : Nat} {L : Loc} : σ id = some L → n ≤ c → L.base + off + c * z = L.size → VRs σ us vs → VRs σ (.slice (some ⟨id, off, some z⟩) n 0 :: us) (.slice (some ⟨L.blk, L.base + off, none⟩) n c :: vs)
  | sle {us vs : List Value} {id off z c A : Nat} {L : Loc} : σ id = some L → (c = 0 ∨ A = L.base + off ∧ L.base + off + c * z = L.size) → VRs σ us vs → VRs σ (.slice (some ⟨id, off, some z⟩) 0 1 :: us) (.slice (some ⟨L.blk, A, none⟩) 0 c :: vs)
  | map {us vs : List Value} {id : Nat} {L : Loc} : σ id = some L → VRs σ us vs → VRs σ (.map (some id) :: us) (.map (some L.blk) :: vs)
  | func {us vs xs ys xs' ys' : List Value} (f : FuncId) : VRs σ xs ys → VRs σ xs' ys' → VRs σ us vs → VRs σ (.func (.func f) ⟨xs⟩ ⟨xs'⟩ :: us) (.func (.func f) ⟨ys⟩ ⟨ys'⟩ :: vs)
  | yld {us vs : List Value} {id : Nat} {L : Loc} : σ id = some L → VRs σ us vs → VRs σ (.func (.yield id) ⟨[]⟩ ⟨[]⟩ :: us) (.func (.yield L.blk) ⟨[]⟩ ⟨[]⟩ :: vs)
  | iface {us vs : List Value} {x y : Value} (t : TypeId) : VRs σ [x] [y] → VRs σ us vs → VRs σ (.iface t x :: us) (.iface t y :: vs)
  | agg {us vs xs ys : List Value} : VRs σ xs ys → VRs σ us vs → VRs σ (.agg ⟨xs⟩ :: us) (.agg ⟨ys⟩ :: vs)
  | tuple {us vs xs ys : List Value} : VRs σ xs ys → VRs σ us vs → VRs σ (.tuple ⟨xs⟩ :: us) (.tuple ⟨ys⟩ :: vs)
abbrev VR (σ : Sg) (x y : Value) : Prop := VRs σ [x] [y]

theorem VRs.cons {σ : Sg} {x y : Value} {us vs : List Value} (h : VR σ x y) (t : VRs σ us vs) : VRs σ (x :: us) (y :: vs) := by
  cases h with
  | sc _ h _ => exact .sc _ h t
  | ptr h _ => exact .ptr h t
  | sl h _ => exact .sl h t
  | slo h h1 h2 _ => exact .slo h h1 h2 t
  | sle h h1 _ => exact .sle h h1 t
  | map h _ => exact .map h t
  | func f h h' _ => exact .func f h h' t
  | yld h _ => exact .yld h t
  | iface ty h _ => exact .iface ty h t
  | agg h _ => exact .agg h t
  | tuple h _ => exact .tuple h t
theorem VRs.inv {σ : Sg} {x : Value} {us vs : List Value} (h : VRs σ (x :: us) vs) : ∃ y vs', vs = y :: vs' ∧ VR σ x y ∧ VRs σ us vs' := by
  cases h with
  | sc _ h t => exact ⟨_, _, rfl, .sc _ h .nil, t⟩
  | ptr h t => exact ⟨_, _, rfl, .ptr h .nil, t⟩
  | sl h t => exact ⟨_, _, rfl, .sl h .nil, t⟩
  | slo h h1 h2 t => exact ⟨_, _, rfl, .slo h h1 h2 .nil, t⟩
  | sle h h1 t => exact ⟨_, _, rfl, .sle h h1 .nil, t⟩
  | map h t => exact ⟨_, _, rfl, .map h .nil, t⟩
  | func f h h' t => exact ⟨_, _, rfl, .func f h h' .nil, t⟩
  | yld h t => exact ⟨_, _, rfl, .yld h .nil, t⟩
  | iface ty h t => exact ⟨_, _, rfl, .iface ty h .nil, t⟩
  | agg h t => exact ⟨_, _, rfl, .agg h .nil, t⟩
  | tuple h t => exact ⟨_, _, rfl, .tuple h .nil, t⟩
theorem VRs.inv_nil {σ : Sg} {vs : List Value} (h : VRs σ [] vs) : vs = [] := by cases h; rfl
theorem VRs.len {σ : Sg} : ∀ {us vs : List Value}, VRs σ us vs → us.length = vs.length
  | [], vs, h => by rw [h.inv_nil]
  | x :: us, vs, h => by
    obtain ⟨y, vs', rfl, _, t⟩ := h.inv
    simp [t.len]
theorem VRs.append {σ : Sg} : ∀ {us vs xs ys : List Value}, VRs σ us vs → VRs σ xs ys → VRs σ (us ++ xs) (vs ++ ys)
  | [], vs, _, _, h, h' => by rw [h.inv_nil]; exact h'
  | x :: us, vs, _, _, h, h' => by
    obtain ⟨y, vs', rfl, hx, t⟩ := h.inv
    exact .cons hx (t.append h')
theorem VRs.get {σ : Sg} : ∀ {us vs : List Value} {i : Nat} {x : Value}, VRs σ us vs → us[i]? = some x → ∃ y, vs[i]? = some y ∧ VR σ x y
  | [], _, _, _, _, hx => by simp at hx
  | x :: us, vs, i, v, h, hx => by
    obtain ⟨y, vs', rfl, h1, t⟩ := h.inv
    cases i with
    | zero => simp only [List.getElem?_cons_zero, Option.some.injEq] at hx; subst hx; exact ⟨y, rfl, h1⟩
    | succ i => exact t.get (i := i) (by simpa using hx)
theorem VRs.of_get {σ : Sg} : ∀ {us vs : List Value}, us.length = vs.length → (∀ (i : Nat) (x : Value), us[i]? = some x → ∃ y, vs[i]? = some y ∧ VR σ x y) → VRs σ us vs
  | [], [], _, _ => .nil
  | [], _ :: _, h, _ => by simp at h
  | _ :: _, [], h, _ => by simp at h
  | x :: us, y :: vs, h, hg => by
    obtain ⟨y', hy, hxy⟩ := hg 0 x rfl
    simp only [List.getElem?_cons_zero, Option.some.injEq] at hy
    subst hy
    exact .cons hxy (VRs.of_get (by simpa using h) fun (i : Nat) (x : Value) hx => by simpa using hg (i + 1) x (by simpa using hx))
theorem VRs.drop {σ : Sg} : ∀ {us vs : List Value} (n : Nat), VRs σ us vs → VRs σ (us.drop n) (vs.drop n)
  | us, vs, 0, h => h
  | [], vs, n + 1, h => by rw [h.inv_nil]; exact .nil
  | x :: us, vs, n + 1, h => by
    obtain ⟨y, vs', rfl, _, t⟩ := h.inv
    exact t.drop n
theorem VRs.take {σ : Sg} : ∀ {us vs : List Value} (n : Nat), VRs σ us vs → VRs σ (us.take n) (vs.take n)
  | us, vs, 0, _ => .nil
  | [], vs, n + 1, h => by rw [h.inv_nil]; exact .nil
  | x :: us, vs, n + 1, h => by
    obtain ⟨y, vs', rfl, h1, t⟩ := h.inv
    exact .cons h1 (t.take n)
/-- More places are known. -/
def Sg.le (σ σ' : Sg) : Prop := ∀ id L, σ id = some L → σ' id = some L
theorem Sg.le.refl (σ : Sg) : σ.le σ := fun _ _ h => h
theorem Sg.le.trans {σ σ' σ'' : Sg} (h : σ.le σ') (h' : σ'.le σ'') : σ.le σ'' := fun _ _ e => h' _ _ (h _ _ e)
theorem VRs.mono {σ σ' : Sg} (hs : σ.le σ') {us vs : List Value} (h : VRs σ us vs) : VRs σ' us vs := by
  induction h with
  | nil => exact .nil
  | sc v h _ ih => exact .sc v h ih
  | ptr h _ ih => exact .ptr (hs _ _ h) ih
  | sl h _ ih => exact .sl (hs _ _ h) ih
  | slo h h1 h2 _ ih => exact .slo (hs _ _ h) h1 h2 ih
  | sle h h1 _ ih => exact .sle (hs _ _ h) h1 ih
  | map h _ ih => exact .map (hs _ _ h) ih
  | func f _ _ _ i1 i2 i3 => exact .func f i1 i2 i3
  | yld h _ ih => exact .yld (hs _ _ h) ih
  | iface ty _ _ i1 i2 => exact .iface ty i1 i2
  | agg _ _ i1 i2 => exact .agg i1 i2
  | tuple _ _ i1 i2 => exact .tuple i1 i2
/-- Values that name no place, to any depth. -/
noncomputable def flat1 (ih : List Value → Bool) : Value → Bool
  | .agg ⟨a⟩ => ih a
  | .tuple ⟨a⟩ => ih a
  | .iface _ x => ih [x]
  | .func (.func _) ⟨a⟩ ⟨b⟩ => ih a && ih b
  | v => scal v
noncomputable def flatN (n : Nat) : List Value → Bool :=
  @Nat.rec (fun _ => List Value → Bool) (fun _ => false) (fun _ ih l => @List.rec Value (fun _ => Bool) true (fun v us _ => bo (flat1 ih v) (ih us) false) l) n
theorem flatN_cons (n : Nat) (v : Value) (us : List Value) : flatN (n + 1) (v :: us) = bo (flat1 (flatN n) v) (flatN n us) false := rfl
theorem flatN_ok {σ : Sg} : ∀ (n : Nat) {us : List Value}, flatN n us = true → VRs σ us us
  | 0, us, h => by cases h
  | n + 1, [], _ => .nil
  | n + 1, v :: us, h => by
    rw [flatN_cons] at h
    cases hc : flat1 (flatN n) v with
    | false => rw [hc] at h; cases h
    | true =>
      rw [hc] at h
      have ht := flatN_ok (σ := σ) n (us := us) h
      unfold flat1 at hc
      split at hc
      · exact .agg (flatN_ok n hc) ht
      · exact .tuple (flatN_ok n hc) ht
      · exact .iface _ (flatN_ok n hc) ht
      · simp only [Bool.and_eq_true] at hc
        exact .func _ (flatN_ok n hc.1) (flatN_ok n hc.2) ht
      · exact .sc _ hc ht
theorem VRs.eq_of_flat {σ : Sg} : ∀ (n : Nat) {us vs : List Value}, flatN n us = true → VRs σ us vs → vs = us
  | 0, us, _, h, _ => by cases h
  | n + 1, [], _, _, h' => h'.inv_nil
  | n + 1, v :: us, vs, h, h' => by
    rw [flatN_cons] at h
    cases hc : flat1 (flatN n) v with
    | false => rw [hc] at h; cases h
    | true =>
      rw [hc] at h
      cases h' with
      | sc _ hs t => rw [t.eq_of_flat n h]
      | ptr hs t => cases hc
      | sl hs t => cases hc
      | slo hs _ _ t => cases hc
      | sle hs _ t => cases hc
      | map hs t => cases hc
      | yld hs t => cases hc
      | func f a b t =>
        rw [t.eq_of_flat n h]
        have hc' := Bool.and_eq_true_iff.1 hc
        rw [a.eq_of_flat n hc'.1, b.eq_of_flat n hc'.2]
      | iface ty a t =>
        rw [t.eq_of_flat n h]
        have := a.eq_of_flat n hc
        injection this with e1; rw [e1]
      | agg a t => rw [t.eq_of_flat n h, a.eq_of_flat n hc]
      | tuple a t => rw [t.eq_of_flat n h, a.eq_of_flat n hc]
/-- A value of one cell stands for one of one cell. -/
theorem VR.cells {σ : Sg} {x y : Value} (h : VR σ x y) : VRs σ x.cells.toList y.cells.toList := by
  cases h with
  | agg a _ => exact a
  | sc v hs _ => cases x <;> first | exact .sc _ hs .nil | cases hs
  | ptr hs _ => exact .ptr hs .nil
  | sl hs _ => exact .sl hs .nil
  | slo hs h1 h2 _ => exact .slo hs h1 h2 .nil
  | sle hs h1 _ => exact .sle hs h1 .nil
  | map hs _ => exact .map hs .nil
  | func f a b _ => exact .func f a b .nil
  | yld h _ => exact .yld h .nil
  | iface ty a _ => exact .iface ty a .nil
  | tuple a _ => exact .tuple a .nil
theorem VR.one {σ : Sg} {x y : Value} (h : VR σ x y) : x.oneCell' = y.oneCell' := by
  cases h <;> rfl
theorem VRs.one {σ : Sg} : ∀ {us vs : List Value}, VRs σ us vs → us.all (·.oneCell') = true → ∀ v ∈ vs, v.oneCell' = true
  | [], vs, h, _ => by rw [h.inv_nil]; simp
  | x :: us, vs, h, ha => by
    obtain ⟨y, vs', rfl, h1, t⟩ := h.inv
    simp only [List.all_cons, Bool.and_eq_true] at ha
    intro v hv
    rcases List.mem_cons.1 hv with rfl | hv
    · rw [← h1.one]; exact ha.1
    · exact t.one ha.2 v hv

/-- A numbered block: a row's first n cells (k = 2: only read), a map's entries (and when each was born), a string or a map that is ranged over, the record of a range over a function. -/
inductive Bl where
  | cells (elem n k : Nat) (c : Tb Value)
  | map (clock : Nat) (bs : List Nat) (l : List (Value × Value))
  | iter (s : ByteArray) (pos : Nat)
  | miter (m : Option Nat) (since : Nat) (seen : List Nat) (last : Nat)
  | loop (st n : Nat) (e : Tb Value) (ps : List Nat) (asg body : Code) (pend : Option (Option Nat))
/-- A block that is looked at. -/
noncomputable def blS {β : Type} (B : Bl) (f : Bl → β) : β :=
  match B with
  | .cells el n k c => natS n (fun n => f (.cells el n k c))
  | B => f B
theorem blS_eq {β : Type} (B : Bl) (f : Bl → β) : blS B f = f B := by
  unfold blS
  split
  · rw [natS_eq]
  · rfl
abbrev Hp := Tb Bl
/-- Where a range over a function stands. -/
def lpSt : Nat → LoopState
  | 0 => .ready
  | 1 => .busy
  | 2 => .done
  | _ => .exhausted
/-- How a round was left. -/
def jumpC : Option Nat → Code
  | none => .ret
  | some id => .exit id

def BR (σ : Sg) (L : Loc) (w : World) : Bl → Prop
  | .cells elem n k c => ∃ (row : Array Value) (fz : Nat × Nat), w.heap[L.blk]? = some (.cells row elem fz) ∧ row.size = L.size ∧ L.base + n ≤ L.size ∧ (∀ i, (c.get i).isSome = true ↔ i < n) ∧
      (∀ i v, c.get i = some v → ∃ u, row[L.base + i]? = some u ∧ VR σ v u) ∧ (k ≠ 2 → fz.1 = fz.2 ∨ L.size ≤ fz.1)
  | .map clock bs l => ∃ es : Array MapEntry, w.heap[L.blk]? = some (.map es clock) ∧ VRs σ (l.map (·.1)) (es.toList.map (·.key)) ∧ VRs σ (l.map (·.2)) (es.toList.map (·.val)) ∧ es.toList.map (·.born) = bs
  | .iter s pos => L.base = 0 ∧ w.heap[L.blk]? = some (.stringIter s pos)
  | .miter m since seen last => L.base = 0 ∧ ∃ r, (∀ id, m = some id → ∃ L', σ id = some L' ∧ r = some L'.blk) ∧ (m = none → r = none) ∧ w.heap[L.blk]? = some (.mapIter r since ⟨seen⟩ last)
  | .loop st n e ps asg body pend => L.base = 0 ∧ ∃ r : Loop, w.heap[L.blk]? = some (.loop r) ∧ r.state = lpSt st ∧ r.tmps.size = n ∧ (∀ k v, e.get k = some v → ∃ u, r.tmps[k]? = some u ∧ VR σ v u) ∧ r.params.toList = ps ∧ r.assign = asg ∧ r.body = body ∧ r.pending = pend.map jumpC
theorem BR.lt {σ : Sg} {L : Loc} {w : World} {B : Bl} (h : BR σ L w B) : L.blk < w.heap.size := by
  cases B with
  | cells elem n k c => obtain ⟨row, fz, h, _⟩ := h; exact (Array.getElem?_eq_some_iff.1 h).1
  | map cl bs l => obtain ⟨es, h, _⟩ := h; exact (Array.getElem?_eq_some_iff.1 h).1
  | iter s p => exact (Array.getElem?_eq_some_iff.1 h.2).1
  | miter m a b c => obtain ⟨_, r, _, _, h⟩ := h; exact (Array.getElem?_eq_some_iff.1 h).1
  | loop st n e ps asg body pend => obtain ⟨_, r, h, _⟩ := h; exact (Array.getElem?_eq_some_iff.1 h).1
theorem BR.keep {σ σ' : Sg} {L : Loc} {w w' : World} {B : Bl} (h : BR σ L w B) (hs : σ.le σ') (hb : w'.heap[L.blk]? = w.heap[L.blk]?) : BR σ' L w' B := by
  cases B with
  | cells elem n k c =>
    obtain ⟨row, fz, h0, h1, h2, h3, h4, h5⟩ := h
    exact ⟨row, fz, hb.trans h0, h1, h2, h3, fun i v hv => let ⟨u, hu, hr⟩ := h4 i v hv; ⟨u, hu, hr.mono hs⟩, h5⟩
  | map cl bs l =>
    obtain ⟨es, h0, h1, h2, h3⟩ := h
    exact ⟨es, hb.trans h0, h1.mono hs, h2.mono hs, h3⟩
  | iter s p => exact ⟨h.1, hb.trans h.2⟩
  | miter m a b c =>
    obtain ⟨h0, r, h1, h2, h3⟩ := h
    exact ⟨h0, r, fun id hi => let ⟨L', h4, h5⟩ := h1 id hi; ⟨L', hs _ _ h4, h5⟩, h2, hb.trans h3⟩
  | loop st n e ps asg body pend =>
    obtain ⟨h0, r, h1, h2, h3, h4, h5⟩ := h
    exact ⟨h0, r, hb.trans h1, h2, h3, fun k v hk => let ⟨u, hu, hr⟩ := h4 k v hk; ⟨u, hu, hr.mono hs⟩, h5⟩

abbrev Hf := Nat → Option Bl
/-- The memory of the machine stands for the model's. nx: numbers from here on are free; G: this many package-level variables have their own numbers. -/
structure MR (G : Nat) (σ : Sg) (h : Hf) (nx : Nat) (w : World) : Prop where
  blk : ∀ id B, h id = some B → ∃ L, σ id = some L ∧ BR σ L w B
  sep : ∀ id id' L L', (h id).isSome = true → (h id').isSome = true → σ id = some L → σ id' = some L' → L.blk = L'.blk → id = id'
  free : ∀ id, nx ≤ id → σ id = none
  glob : ∀ g, g < G → ∃ n, σ g = some ⟨g, 0, n⟩
  gle : G ≤ nx
/-- A step of the machine stands for a step of the model. -/
structure Tr (G : Nat) (σ : Sg) (h : Hf) (nx : Nat) (w : World) (σ' : Sg) (h' : Hf) (nx' : Nat) (w' : World) : Prop where
  le : nx ≤ nx'
  ext : σ.le σ'
  old : ∀ id, id < nx → σ' id = σ id
  mr : MR G σ' h' nx' w'
  os : w'.os = w.os
  tape : w'.tape = w.tape
  output : w'.output = w.output
  size : w.heap.size ≤ w'.heap.size
  fr : ∀ r, r < w.heap.size → (∀ id L, (h id).isSome = true → σ id = some L → L.blk ≠ r) → w'.heap[r]? = w.heap[r]?
  src : ∀ id L', (h' id).isSome = true → σ' id = some L' → w.heap.size ≤ L'.blk ∨ ∃ id0 L0, (h id0).isSome = true ∧ σ id0 = some L0 ∧ L0.blk = L'.blk
  dom : ∀ id, id < nx → h id = none → h' id = none
theorem Tr.refl {G : Nat} {σ : Sg} {h : Hf} {nx : Nat} {w : World} (m : MR G σ h nx w) : Tr G σ h nx w σ h nx w :=
  ⟨Nat.le_refl _, Sg.le.refl σ, fun _ _ => rfl, m, rfl, rfl, rfl, Nat.le_refl _, fun _ _ _ => rfl, fun id L' hi hs => .inr ⟨id, L', hi, hs, rfl⟩, fun _ _ h => h⟩
theorem Tr.trans {G : Nat} {σ σ' σ'' : Sg} {h h' h'' : Hf} {nx nx' nx'' : Nat} {w w' w'' : World} (a : Tr G σ h nx w σ' h' nx' w') (b : Tr G σ' h' nx' w' σ'' h'' nx'' w'') : Tr G σ h nx w σ'' h'' nx'' w'' where
  le := Nat.le_trans a.le b.le
  ext := a.ext.trans b.ext
  old id hi := (b.old id (Nat.lt_of_lt_of_le hi a.le)).trans (a.old id hi)
  mr := b.mr
  os := b.os.trans a.os
  tape := b.tape.trans a.tape
  output := b.output.trans a.output
  size := Nat.le_trans a.size b.size
  fr r hr hn := by
    refine (b.fr r (Nat.lt_of_lt_of_le hr a.size) fun id L hi hs e => ?_).trans (a.fr r hr hn)
    rcases a.src id L hi hs with h1 | ⟨id0, L0, h1, h2, h3⟩
    · omega
    · exact hn id0 L0 h1 h2 (h3.trans e)
  src id L hi hs := by
    rcases b.src id L hi hs with h1 | ⟨id0, L0, h1, h2, h3⟩
    · exact .inl (Nat.le_trans a.size h1)
    · rcases a.src id0 L0 h1 h2 with h4 | ⟨id1, L1, h4, h5, h6⟩
      · exact .inl (by omega)
      · exact .inr ⟨id1, L1, h4, h5, h6.trans h3⟩
  dom id hi hn := b.dom id (Nat.lt_of_lt_of_le hi a.le) (a.dom id hi hn)
theorem Tr.drew {G : Nat} {σ σ' : Sg} {h h' : Hf} {nx nx' : Nat} {w w' : World} (a : Tr G σ h nx w.drew σ' h' nx' w') : Tr G σ h nx w σ' h' nx' w' :=
  ⟨a.le, a.ext, a.old, a.mr, a.os, a.tape, a.output, a.size, a.fr, a.src, a.dom⟩
theorem BR.drew {σ : Sg} {L : Loc} {w : World} {B : Bl} (h : BR σ L w B) : BR σ L w.drew B := h.keep (Sg.le.refl σ) rfl
theorem MR.drew {G : Nat} {σ : Sg} {h : Hf} {nx : Nat} {w : World} (m : MR G σ h nx w) : MR G σ h nx w.drew :=
  ⟨fun id B hb => let ⟨L, h1, h2⟩ := m.blk id B hb; ⟨L, h1, h2.drew⟩, m.sep, m.free, m.glob, m.gle⟩
end Go.Proofs.YteecfaiabachbaaGreatDoor
