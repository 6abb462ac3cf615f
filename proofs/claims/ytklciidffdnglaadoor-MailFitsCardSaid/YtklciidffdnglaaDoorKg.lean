/- The machine that runs closed code: two values are set against one another, values are turned, lengths. Over any program. No condition. -/
import Derived.Test.YtklciidffdnglaaDoorKf
import Derived.Lib.ConvBytes
namespace Go.Proofs.YtklciidffdnglaaDoor
open Go.RowKit

theorem ikn_inj {k k' : IntKind} (h : Nat.beq (ikn k) (ikn k') = true) : k = k' := by
  have := Nat.eq_of_beq_eq_true h
  cases k <;> cases k' <;> first | rfl | cases this
theorem wr_ok (k : IntKind) (n : Int) : wr k n = k.wrap n := by
  cases n with
  | ofNat m =>
    show bo (Nat.blt m (ikLim k)) (Int.ofNat m) (bo k.signed (k.wrap (Int.ofNat m)) (.ofNat (Nat.mod m (ikLim k)))) = _
    cases hb : Nat.blt m (ikLim k) with
    | false => cases k <;> rfl
    | true =>
      have := blt_lt hb
      rw [bo_true]
      have h1 : Int.ofNat m = (m : Int) := rfl
      rw [h1]
      cases k <;> simp only [ikLim] at this <;> symm
      · exact IntWalk.i8_in _ (by omega)
      · exact IntWalk.i16_in _ (by omega)
      · exact IntWalk.i32_in _ (by omega)
      · exact IntWalk.i64_in _ (by omega)
      · exact IntWalk.u8_in _ (by omega)
      · exact IntWalk.u16_in _ (by omega)
      · exact IntWalk.u32_in _ (by omega)
      · exact IntWalk.u64_in _ (by omega)
  | negSucc m =>
    show bo (k.signed && Nat.blt m (ikLim k)) (Int.negSucc m) (k.wrap (Int.negSucc m)) = _
    cases hb : (k.signed && Nat.blt m (ikLim k)) with
    | false => rfl
    | true =>
      simp only [Bool.and_eq_true] at hb
      have := blt_lt hb.2
      have hs := hb.1
      rw [bo_true]
      cases k <;> simp only [ikLim] at this <;> symm
      · exact IntWalk.i8_in _ (by omega)
      · exact IntWalk.i16_in _ (by omega)
      · exact IntWalk.i32_in _ (by omega)
      · exact IntWalk.i64_in _ (by omega)
      all_goals cases hs
theorem iEq_ok (a b : Int) : iEq a b = (a == b) := by
  cases a <;> cases b <;> simp only [iEq]
  · rename_i m n
    cases hb : Nat.beq m n with
    | true => have := Nat.eq_of_beq_eq_true hb; subst this; simp
    | false => have : m ≠ n := fun e => by subst e; simp at hb
               symm; simp; omega
  · symm; simp
  · symm; simp
  · rename_i m n
    cases hb : Nat.beq m n with
    | true => have := Nat.eq_of_beq_eq_true hb; subst this; simp
    | false => have : m ≠ n := fun e => by subst e; simp at hb
               symm; simp; omega
theorem blt_dec (m n : Nat) : Nat.blt m n = decide (m < n) := by
  cases hb : Nat.blt m n with
  | true => have := blt_lt hb; simp [this]
  | false => have : ¬ m < n := fun h => by
               have := Nat.ble_eq_true_of_le (show m + 1 ≤ n by omega)
               unfold Nat.blt at hb; rw [this] at hb; cases hb
             simp [this]
theorem iLt_ok (a b : Int) : iLt a b = decide (a < b) := by
  cases a <;> cases b <;> simp only [iLt, blt_dec]
  · rename_i m n; simp
  · rename_i m n; symm; simp; omega
  · rename_i m n; symm; simp; omega
  · rename_i m n
    by_cases hh : n < m
    · simp only [hh, decide_true]; symm; simp; omega
    · simp only [hh, decide_false]; symm; simp; omega
theorem byEq_ok : ∀ a b : List UInt8, byEq a b = (a == b)
  | [], [] => rfl
  | [], b :: y => rfl
  | a :: x, [] => rfl
  | a :: x, b :: y => by
    unfold byEq
    cases hb : Nat.beq a.toNat b.toNat with
    | true =>
      have hab : a = b := UInt8.toNat_inj.1 (Nat.eq_of_beq_eq_true hb)
      rw [bo_true, byEq_ok x y]; subst hab; simp
    | false =>
      have hab : a ≠ b := fun e => by subst e; simp at hb
      rw [bo_false]; symm; simp [hab]
theorem byLt_ok : ∀ a b : List UInt8, byLt a b = Op.bytesLess a b
  | [], [] => rfl
  | [], b :: y => rfl
  | a :: x, [] => rfl
  | a :: x, b :: y => by
    unfold byLt Op.bytesLess
    rw [blt_dec]
    by_cases hlt : a.toNat < b.toNat
    · have : a < b := UInt8.lt_iff_toNat_lt.2 hlt
      simp [hlt, this, bo_true]
    · have h1 : ¬ a < b := fun hh => hlt (UInt8.lt_iff_toNat_lt.1 hh)
      cases hb : Nat.beq a.toNat b.toNat with
      | true =>
        have hab : a = b := UInt8.toNat_inj.1 (Nat.eq_of_beq_eq_true hb)
        subst hab
        simp [bo_false, bo_true, byLt_ok x y]
      | false =>
        have hab : a ≠ b := fun e => by subst e; simp at hb
        simp [hlt, h1, hab, bo_false]
theorem bytesLess_tri : ∀ a b : List UInt8, (!Op.bytesLess b a) = (Op.bytesLess a b || a == b)
  | [], [] => rfl
  | [], b :: y => rfl
  | a :: x, [] => rfl
  | a :: x, b :: y => by
    unfold Op.bytesLess
    have ih := bytesLess_tri x y
    by_cases h1 : a = b
    · subst h1
      have : ¬ a < a := UInt8.lt_irrefl a
      simpa [this] using ih
    · have h2 : b ≠ a := fun e => h1 e.symm
      by_cases h3 : a < b
      · have : ¬ b < a := UInt8.lt_asymm h3
        simp [h2, h3, this]
      · have : b < a := by
          rcases Nat.lt_trichotomy a.toNat b.toNat with h4 | h4 | h4
          · exact absurd (UInt8.lt_iff_toNat_lt.2 h4) h3
          · exact absurd (UInt8.toNat_inj.1 h4) h1
          · exact UInt8.lt_iff_toNat_lt.2 h4
        simp [h1, h3, this]

section
variable {P : Program} {G : Nat} {o : Oper} {e : Tb Value} {h h' : Hp} {nx nx' : Nat} {v : Value}
theorem not_select_bin {op : BinOp} {t t' : TypeId} {x y : Operand} (ho : o.op = .binOp op t x y t') : ∀ cs b, o.op ≠ .select cs b := fun cs b hh => by rw [ho] at hh; cases hh
theorem run_equal_nil {t el : Nat} {w : World} (hu : P.underlying t = some (.pointer el)) (a : Option Addr) : (Op.equal t (.pointer none) (.pointer a)).run P w = .ok a.isNone w := by
  unfold Op.equal Op.maxDepth Op.equalIn
  cases a <;> simp [run_underlying hu]
theorem eqNil_ok {σ : Sg} {t : TypeId} {a b u u' : Value} {r : Bool} (hr : eqNil P t a b = some r) (ha : VR σ a u) (hb : VR σ b u') (w : World) : (Op.equal t u u').run P w = .ok r w ∧ (∀ op x y, eqGuard op t x y u u' = pure ()) ∧ (binOp .eql t u u' = do pure (.bool (← Op.equal t u u'))) ∧ (binOp .neq t u u' = do pure (.bool (!(← Op.equal t u u')))) := by
  unfold eqNil at hr
  split at hr
  · rename_i a
    obtain ⟨el, hel, rfl⟩ := Option.map_eq_some_iff.1 hr
    have hu := ptrElem_ok hel
    have hb := hb.scal_inv rfl
    subst hb
    cases a with
    | none =>
      have := ha.scal_inv rfl; subst this
      exact ⟨run_equal_ptr hu _, fun op x y => eqGuard_at_pointer .., rfl, rfl⟩
    | some a =>
      obtain ⟨id, off, sp⟩ := a
      cases sp with
      | some z => cases ha with | sc _ hs _ => cases hs
      | none =>
        obtain ⟨L, _, rfl⟩ := ha.ptr_inv
        exact ⟨run_equal_ptr hu _, fun op x y => eqGuard_at_pointer .., rfl, rfl⟩
  · rename_i a _
    obtain ⟨el, hel, rfl⟩ := Option.map_eq_some_iff.1 hr
    have hu := ptrElem_ok hel
    have ha := ha.scal_inv rfl
    subst ha
    cases a with
    | none =>
      have := hb.scal_inv rfl; subst this
      exact ⟨run_equal_nil hu _, fun op x y => eqGuard_at_pointer .., rfl, rfl⟩
    | some a =>
      obtain ⟨id, off, sp⟩ := a
      cases sp with
      | some z => cases hb with | sc _ hs _ => cases hs
      | none =>
        obtain ⟨L, _, rfl⟩ := hb.ptr_inv
        exact ⟨run_equal_nil hu _, fun op x y => eqGuard_at_pointer .., rfl, rfl⟩
  · rename_i a i b j
    split at hr
    · rename_i el hel
      split at hr
      · rename_i n hn
        obtain ⟨hab, hr⟩ := bo_inv hr (by simp)
        injection hr with hr; subst hr
        have hab := Nat.eq_of_beq_eq_true hab
        subst hab
        have hu := ptrElem_ok hel
        obtain ⟨L, hL, rfl⟩ := ha.ptr_inv
        obtain ⟨L', hL', rfl⟩ := hb.ptr_inv
        rw [hL] at hL'; injection hL' with hL'; subst hL'
        obtain ⟨inf, hi, hs⟩ := sizeTy_info hn
        refine ⟨?_, fun op x y => eqGuard_at_pointer .., rfl, rfl⟩
        have hbq : (({ block := L.blk, off := L.base + i, spot := none } : Addr) == { block := L.blk, off := L.base + j, spot := none }) = Nat.beq i j := by
          cases hij : Nat.beq i j with
          | true => have := Nat.eq_of_beq_eq_true hij; subst this; simp
          | false => have : i ≠ j := fun e => by subst e; simp at hij
                     rw [beq_eq_false_iff_ne]; intro hh; injection hh with _ h2 _; omega
        unfold Op.equal Op.maxDepth Op.equalIn
        simp [run_underlying hu, sizeOf, typeInfo, hi, hs, sameAddr, hbq]
      · cases hr
    · cases hr
  · rename_i a _ _ _ _
    obtain ⟨p, hel, rfl⟩ := Option.map_eq_some_iff.1 hr
    obtain ⟨el, s⟩ := p
    obtain ⟨hu, _⟩ := slEl hel
    have hb := hb.scal_inv rfl
    subst hb
    cases a with
    | none =>
      have := ha.scal_inv rfl; subst this
      refine ⟨?_, fun op x y => eqGuard_at_slice .., rfl, rfl⟩
      unfold Op.equal Op.maxDepth Op.equalIn
      simp [run_underlying hu]
    | some a =>
      obtain ⟨id, off, sp⟩ := a
      obtain ⟨L, A, c', hL, rfl, _⟩ := ha.slice_any
      refine ⟨?_, fun op x y => eqGuard_at_slice .., rfl, rfl⟩
      unfold Op.equal Op.maxDepth Op.equalIn
      simp [run_underlying hu]
  · rename_i a
    split at hr
    · rename_i k el hu
      injection hr with hr; subst hr
      have hb := hb.scal_inv rfl
      subst hb
      cases a with
      | none =>
        have := ha.scal_inv rfl; subst this
        refine ⟨?_, fun op x y => eqGuard_at_map .., rfl, rfl⟩
        unfold Op.equal Op.maxDepth Op.equalIn
        simp [run_underlying hu]
      | some id =>
        obtain ⟨L, hL, rfl⟩ := ha.map_inv
        refine ⟨?_, fun op x y => eqGuard_at_map .., rfl, rfl⟩
        unfold Op.equal Op.maxDepth Op.equalIn
        simp [run_underlying hu]
    · cases hr
  · rename_i f xs ys
    split at hr
    · rename_i ps rs va hu
      injection hr with hr; subst hr
      have hb := hb.scal_inv rfl
      subst hb
      cases ha with
      | sc _ hs _ => cases hs
      | func f _ _ _ =>
        refine ⟨?_, fun op x y => eqGuard_at_func .., rfl, rfl⟩
        unfold Op.equal Op.maxDepth Op.equalIn
        simp [run_underlying hu]
      | yld _ _ =>
        refine ⟨?_, fun op x y => eqGuard_at_func .., rfl, rfl⟩
        unfold Op.equal Op.maxDepth Op.equalIn
        simp [run_underlying hu]
    · cases hr
  · split at hr
    · rename_i ps rs va hu
      injection hr with hr; subst hr
      have ha := ha.scal_inv rfl
      have hb := hb.scal_inv rfl
      subst ha; subst hb
      refine ⟨?_, fun op x y => eqGuard_at_nilFunc .., rfl, rfl⟩
      unfold Op.equal Op.maxDepth Op.equalIn
      simp [run_underlying hu]
    · cases hr
  · cases hr
theorem not_lt_dec (a b : Int) : (!decide (b < a)) = decide (a ≤ b) := by
  by_cases hh : b < a
  · have : ¬ a ≤ b := by omega
    simp [hh]
  · have : a ≤ b := by omega
    simp [this]
/-- Bits of numbers that are not negative. -/
theorem ofInt_nat (n m : Nat) : BitVec.ofInt n (Int.ofNat m) = BitVec.ofNat n m := by
  show BitVec.ofInt n (m : Int) = _
  simp
theorem ikLim_le (k : IntKind) : ikLim k ≤ 2 ^ k.bits := by cases k <;> decide
theorem ikLim_pow (k : IntKind) : ∃ e, ikLim k = 2 ^ e := by
  cases k
  · exact ⟨7, rfl⟩
  · exact ⟨15, rfl⟩
  · exact ⟨31, rfl⟩
  · exact ⟨63, rfl⟩
  · exact ⟨8, rfl⟩
  · exact ⟨16, rfl⟩
  · exact ⟨32, rfl⟩
  · exact ⟨64, rfl⟩
theorem wrap_small (k : IntKind) (m : Nat) (h : m < ikLim k) : k.wrap (m : Int) = Int.ofNat m := by
  rw [← wr_ok]
  show bo (Nat.blt m (ikLim k)) (Int.ofNat m) _ = _
  rw [blt_dec]
  simp [h, bo]
theorem bits_run {k : IntKind} {a b r : Nat} {op : BinOp} (ha : a < ikLim k) (hb : b < ikLim k) (hop : (op = .and ∧ r = a &&& b) ∨ (op = .or ∧ r = a ||| b) ∨ (op = .xor ∧ r = a ^^^ b)) : Op.intBits op k (Int.ofNat a) (Int.ofNat b) = pure (.int k (Int.ofNat r)) := by
  obtain ⟨e, he⟩ := ikLim_pow k
  have hl := ikLim_le k
  have h1 : a % 2 ^ k.bits = a := Nat.mod_eq_of_lt (by omega)
  have h2 : b % 2 ^ k.bits = b := Nat.mod_eq_of_lt (by omega)
  rcases hop with ⟨rfl, rfl⟩ | ⟨rfl, rfl⟩ | ⟨rfl, rfl⟩
  · have : a &&& b < ikLim k := Nat.lt_of_le_of_lt Nat.and_le_left ha
    unfold Op.intBits
    simp only [ofInt_nat, BitVec.toNat_and, BitVec.toNat_ofNat, h1, h2, wrap_small k _ this]
  · have : a ||| b < ikLim k := by rw [he] at ha hb ⊢; exact Nat.or_lt_two_pow ha hb
    unfold Op.intBits
    simp only [ofInt_nat, BitVec.toNat_or, BitVec.toNat_ofNat, h1, h2, wrap_small k _ this]
  · have : a ^^^ b < ikLim k := by rw [he] at ha hb ⊢; exact Nat.xor_lt_two_pow ha hb
    unfold Op.intBits
    simp only [ofInt_nat, BitVec.toNat_xor, BitVec.toNat_ofNat, h1, h2, wrap_small k _ this]
theorem quo_run {k : IntKind} {a b : Nat} (ha : a < ikLim k) (hb : 0 < b) : Op.intDiv .quo k (Int.ofNat a) (Int.ofNat b) = pure (.int k (Int.ofNat (a / b))) := by
  have h0 : ¬ Int.ofNat b = 0 := fun hh => by injection hh with hh; omega
  have h1 : Int.tdiv (Int.ofNat a) (Int.ofNat b) = ((a / b : Nat) : Int) := rfl
  have h2 : a / b < ikLim k := Nat.lt_of_le_of_lt (Nat.div_le_self a b) ha
  unfold Op.intDiv
  rw [if_neg h0]
  simp only [h1, wrap_small k _ h2]
theorem rem_run {k : IntKind} {a b : Nat} (hb : 0 < b) : Op.intDiv .rem k (Int.ofNat a) (Int.ofNat b) = pure (.int k (Int.ofNat (a % b))) := by
  have h0 : ¬ Int.ofNat b = 0 := fun hh => by injection hh with hh; omega
  unfold Op.intDiv
  rw [if_neg h0]
  rfl
theorem fast_ok {op : BinOp} {k : IntKind} {a b : Int} (t : TypeId) (hop : op = .and ∨ op = .or ∨ op = .xor ∨ op = .quo ∨ op = .rem) (hv : intOp op k a b = some v) : (∀ σ, VR σ v v) ∧ binOp op t (.int k a) (.int k b) = pure v := by
  have two : ∀ {f : Nat → Nat → Option Value}, (match a, b with | .ofNat a, .ofNat b => f a b | _, _ => none) = some v → ∃ m n, a = .ofNat m ∧ b = .ofNat n ∧ f m n = some v := fun {f} h => by
    cases a with
    | negSucc => cases h
    | ofNat m => cases b with
      | negSucc => cases h
      | ofNat n => exact ⟨m, n, rfl, rfl, h⟩
  have fin : ∀ r : Nat, v = .int k (.ofNat r) → ∀ σ, VR σ v v := fun r h σ => by subst h; exact VR.int
  rcases hop with rfl | rfl | rfl | rfl | rfl
  · obtain ⟨m, n, rfl, rfl, h⟩ := two (f := fun a b => bo (Nat.blt a (ikLim k) && Nat.blt b (ikLim k)) (some (.int k (.ofNat (Nat.land a b)))) none) (by cases a <;> cases b <;> exact hv)
    obtain ⟨h1, h2⟩ := bo_inv h (by simp)
    simp only [Bool.and_eq_true] at h1
    injection h2 with h2
    exact ⟨fin _ h2.symm, by rw [binOp_and, bits_run (blt_lt h1.1) (blt_lt h1.2) (.inl ⟨rfl, rfl⟩), ← h2]; rfl⟩
  · obtain ⟨m, n, rfl, rfl, h⟩ := two (f := fun a b => bo (Nat.blt a (ikLim k) && Nat.blt b (ikLim k)) (some (.int k (.ofNat (Nat.lor a b)))) none) (by cases a <;> cases b <;> exact hv)
    obtain ⟨h1, h2⟩ := bo_inv h (by simp)
    simp only [Bool.and_eq_true] at h1
    injection h2 with h2
    exact ⟨fin _ h2.symm, by rw [binOp_or, bits_run (blt_lt h1.1) (blt_lt h1.2) (.inr (.inl ⟨rfl, rfl⟩)), ← h2]; rfl⟩
  · obtain ⟨m, n, rfl, rfl, h⟩ := two (f := fun a b => bo (Nat.blt a (ikLim k) && Nat.blt b (ikLim k)) (some (.int k (.ofNat (Nat.xor a b)))) none) (by cases a <;> cases b <;> exact hv)
    obtain ⟨h1, h2⟩ := bo_inv h (by simp)
    simp only [Bool.and_eq_true] at h1
    injection h2 with h2
    exact ⟨fin _ h2.symm, by rw [binOp_xor, bits_run (blt_lt h1.1) (blt_lt h1.2) (.inr (.inr ⟨rfl, rfl⟩)), ← h2]; rfl⟩
  · obtain ⟨m, n, rfl, rfl, h⟩ := two (f := fun a b => bo (Nat.blt a (ikLim k) && Nat.blt 0 b) (some (.int k (.ofNat (Nat.div a b)))) none) (by cases a <;> cases b <;> exact hv)
    obtain ⟨h1, h2⟩ := bo_inv h (by simp)
    simp only [Bool.and_eq_true] at h1
    injection h2 with h2
    exact ⟨fin _ h2.symm, by rw [binOp_quo, quo_run (blt_lt h1.1) (blt_lt h1.2), ← h2]; rfl⟩
  · obtain ⟨m, n, rfl, rfl, h⟩ := two (f := fun a b => bo (Nat.blt 0 b) (some (.int k (.ofNat (Nat.mod a b)))) none) (by cases a <;> cases b <;> exact hv)
    obtain ⟨h1, h2⟩ := bo_inv h (by simp)
    injection h2 with h2
    exact ⟨fin _ h2.symm, by rw [binOp_rem, rem_run (blt_lt h1), ← h2]; rfl⟩
/-- A shift of a number that is not negative. -/
theorem shOp_ok {op : BinOp} {k k' : IntKind} {a b : Int} (t : TypeId) (hv : shOp op k a b = some v) : (∀ σ, VR σ v v) ∧ binOp op t (.int k a) (.int k' b) = pure v := by
  have hb : k.bits = ikBits k := by cases k <;> rfl
  have fin : ∀ r : Int, v = .int k r → ∀ σ, VR σ v v := fun r h σ => by subst h; exact VR.int
  unfold shOp at hv
  split at hv
  · split at hv
    · rename_i m n
      obtain ⟨h1, h2⟩ := bo_inv hv (by simp)
      have h1 := Nat.le_of_ble_eq_true h1
      injection h2 with h2
      refine ⟨fin _ h2.symm, ?_⟩
      have hn : min (Int.ofNat n).toNat k.bits = n := by rw [hb]; exact Nat.min_eq_left h1
      have h0 : ¬ Int.ofNat n < 0 := Int.not_lt.2 (Int.natCast_nonneg n)
      have he : (Int.ofNat m * 2 ^ n : Int) = Int.ofNat (m * 2 ^ n) := by
        show (m : Int) * 2 ^ n = ((m * 2 ^ n : Nat) : Int)
        simp
      rw [binOp_shl, ← h2, wr_ok]
      unfold Op.shift
      rw [if_neg h0]
      simp only [hn, he]
      rfl
    · cases hv
  · split at hv
    · rename_i m n
      obtain ⟨h1, h2⟩ := bo_inv hv (by simp)
      have h1 := Nat.le_of_ble_eq_true h1
      injection h2 with h2
      refine ⟨fin _ h2.symm, ?_⟩
      have hn : min (Int.ofNat n).toNat k.bits = n := by rw [hb]; exact Nat.min_eq_left h1
      have h0 : ¬ Int.ofNat n < 0 := Int.not_lt.2 (Int.natCast_nonneg n)
      have he : Int.fdiv (Int.ofNat m) (2 ^ n) = Int.ofNat (m / 2 ^ n) := by
        show Int.fdiv (m : Int) (2 ^ n) = ((m / 2 ^ n : Nat) : Int)
        rw [show (2 ^ n : Int) = ((2 ^ n : Nat) : Int) by simp, Int.ofNat_fdiv]
      rw [binOp_shr, ← h2]
      unfold Op.shift
      rw [if_neg h0]
      simp only [hn, he]
      rfl
    · cases hv
  · cases hv
theorem intOp_ok {op : BinOp} {k : IntKind} {a b : Int} {t t' : TypeId} {x y : Operand} (ho : o.op = .binOp op t x y t') (hv : intOp op k a b = some v) {ρ : Operand → Value} (hx : ρ x = .int k a) (hy : ρ y = .int k b) (w : World) :
    (∀ σ, VR σ v v) ∧ (execOp ρ o).run P w = .ok (.value v) w := by
  have fast : (op = .and ∨ op = .or ∨ op = .xor ∨ op = .quo ∨ op = .rem) → (∀ σ, VR σ v v) ∧ (execOp ρ o).run P w = .ok (.value v) w := fun hop => by
    obtain ⟨h1, h3⟩ := fast_ok t hop hv
    refine ⟨h1, ?_⟩
    unfold execOp
    simp only [ho, hx, hy, eqGuard_at_int, h3, pure_bind]
    rfl
  unfold intOp at hv
  split at hv
  all_goals first
    | (refine fast ?_; simp; done)
    | (injection hv with hv; subst hv
       refine ⟨fun σ => .sc _ rfl .nil, ?_⟩
       unfold execOp
       simp only [ho, hx, hy, eqGuard_at_int, pure_bind, binOp_add, binOp_sub, binOp_mul, binOp_eql, binOp_neq, binOp_lss, binOp_leq, binOp_gtr, binOp_geq, Op.intArith, wr_ok, iEq_ok, iLt_ok, not_lt_dec]
       rfl)
    | cases hv
theorem bs_leq (t : TypeId) (a b : ByteArray) : binOp .leq t (.string a) (.string b) = pure (.bool (Op.bytesLess a.toList b.toList || a.toList == b.toList)) := by simp [binOp, Op.stringOp]
theorem bs_gtr (t : TypeId) (a b : ByteArray) : binOp .gtr t (.string a) (.string b) = pure (.bool !(Op.bytesLess a.toList b.toList || a.toList == b.toList)) := by simp [binOp, Op.stringOp]
theorem bs_geq (t : TypeId) (a b : ByteArray) : binOp .geq t (.string a) (.string b) = pure (.bool !(Op.bytesLess a.toList b.toList)) := by simp [binOp, Op.stringOp]
theorem strOp_ok {op : BinOp} {a b : ByteArray} {t t' : TypeId} {x y : Operand} (ho : o.op = .binOp op t x y t') (hv : strOp op a.data.toList b.data.toList = some v) {ρ : Operand → Value} (hx : ρ x = .string a) (hy : ρ y = .string b) (w : World) :
    (∀ σ, VR σ v v) ∧ (execOp ρ o).run P w = .ok (.value v) w := by
  have e1 : byEq a.data.toList b.data.toList = (a.toList == b.toList) := by rw [byEq_ok, Lib.toList_data, Lib.toList_data]
  have e2 : byLt a.data.toList b.data.toList = Op.bytesLess a.toList b.toList := by rw [byLt_ok, Lib.toList_data, Lib.toList_data]
  have e3 : (!byLt b.data.toList a.data.toList) = (Op.bytesLess a.toList b.toList || a.toList == b.toList) := by rw [byLt_ok, bytesLess_tri, Lib.toList_data, Lib.toList_data]
  have e4 : byLt b.data.toList a.data.toList = !(Op.bytesLess a.toList b.toList || a.toList == b.toList) := by rw [← e3]; simp
  unfold strOp at hv
  split at hv
  · obtain ⟨hle, hv⟩ := bo_inv hv (by simp)
    injection hv with hv; subst hv
    have hle := Nat.le_of_ble_eq_true hle
    refine ⟨fun σ => .sc _ rfl .nil, ?_⟩
    have h1 : a.size = a.data.toList.length := by obtain ⟨d⟩ := a; rfl
    have h2 : b.size = b.data.toList.length := by obtain ⟨d⟩ := b; rfl
    have h3 : ¬ (((a.size + b.size : Nat) : Int) > IntKind.i64.max) := by
      have : IntKind.i64.max = 9223372036854775807 := rfl
      rw [this]; omega
    have h4 : a ++ b = (⟨⟨a.data.toList ++ b.data.toList⟩⟩ : ByteArray) := by
      obtain ⟨⟨d⟩⟩ := a; obtain ⟨⟨d'⟩⟩ := b
      apply ByteArray.ext; simp
    unfold execOp
    simp only [ho, hx, hy, eqGuard_at_string, pure_bind, binOp_string_add, Op.stringOp, if_neg h3, h4]
    rfl
  · injection hv with hv; subst hv
    exact ⟨fun σ => .sc _ rfl .nil, by unfold execOp; simp only [ho, hx, hy, eqGuard_at_string, pure_bind, binOp_string_eql, e1]; rfl⟩
  · injection hv with hv; subst hv
    exact ⟨fun σ => .sc _ rfl .nil, by unfold execOp; simp only [ho, hx, hy, eqGuard_at_string, pure_bind, binOp_string_neq, e1]; rfl⟩
  · injection hv with hv; subst hv
    exact ⟨fun σ => .sc _ rfl .nil, by unfold execOp; simp only [ho, hx, hy, eqGuard_at_string, pure_bind, binOp_string_lss, e2]; rfl⟩
  · injection hv with hv; subst hv
    exact ⟨fun σ => .sc _ rfl .nil, by unfold execOp; simp only [ho, hx, hy, eqGuard_at_string, pure_bind, bs_leq, e3]; rfl⟩
  · injection hv with hv; subst hv
    exact ⟨fun σ => .sc _ rfl .nil, by unfold execOp; simp only [ho, hx, hy, eqGuard_at_string, pure_bind, bs_gtr, e4]; rfl⟩
  · injection hv with hv; subst hv
    exact ⟨fun σ => .sc _ rfl .nil, by unfold execOp; simp only [ho, hx, hy, eqGuard_at_string, pure_bind, bs_geq, e2]; rfl⟩
  · cases hv
theorem binAny_good {op : BinOp} {t t' : TypeId} {x y : Operand} {a b : Value} (ho : o.op = .binOp op t x y t') (ha : evO G e x = some a) (hb : evO G e y = some b) (hm : binAny a b P G e h nx o op t = .ok v h' nx') : Good P G o e h nx v h' nx' := by
  unfold binAny at hm
  split at hm
  · cases hq : eqNil P t a b with
    | none => rw [hq] at hm; exact flat_good (not_select_bin ho) hm
    | some r =>
      rw [hq, oo_some] at hm
      obtain ⟨rfl, rfl, rfl⟩ := ok_inj hm
      refine good_pure fun σ w ρ oe m => ?_
      obtain ⟨h1, h2, h3, h4⟩ := eqNil_ok hq (oe x _ ha) (oe y _ hb) w
      refine ⟨.bool r, VR.bool, ?_⟩
      unfold execOp
      simp only [ho, h2, pure_bind, h3]
      simp [h1]
  · cases hq : eqNil P t a b with
    | none => rw [hq] at hm; exact flat_good (not_select_bin ho) hm
    | some r =>
      rw [hq, oo_some] at hm
      obtain ⟨rfl, rfl, rfl⟩ := ok_inj hm
      refine good_pure fun σ w ρ oe m => ?_
      obtain ⟨h1, h2, h3, h4⟩ := eqNil_ok hq (oe x _ ha) (oe y _ hb) w
      refine ⟨.bool (!r), VR.bool, ?_⟩
      unfold execOp
      simp only [ho, h2, pure_bind, h4]
      simp [h1]
  · exact flat_good (not_select_bin ho) hm
theorem bin_good {op : BinOp} {t t' : TypeId} {x y : Operand} (ho : o.op = .binOp op t x y t') (hm : mBin P G e h nx o op t (evO G e x) (evO G e y) = .ok v h' nx') : Good P G o e h nx v h' nx' := by
  obtain ⟨a, ha, hm⟩ := oo_inv hm (by simp)
  obtain ⟨b, hb, hm⟩ := oo_inv hm (by simp)
  cases a with
  | int k n =>
    change binInt k n b P G e h nx o op t = _ at hm
    cases b with
    | int k' n' =>
      change bo (Nat.beq (ikn k) (ikn k')) (oo (intOp op k n n') (oo (shOp op k n n') (mFlat P G e h nx o) (fun v => .ok v h nx)) (fun v => .ok v h nx)) (oo (shOp op k n n') (mFlat P G e h nx o) (fun v => .ok v h nx)) = _ at hm
      have sh : oo (shOp op k n n') (mFlat P G e h nx o) (fun v => .ok v h nx) = .ok v h' nx' → Good P G o e h nx v h' nx' := fun hm => by
        cases hv : shOp op k n n' with
        | none => rw [hv] at hm; exact flat_good (not_select_bin ho) hm
        | some v' =>
          rw [hv, oo_some] at hm
          obtain ⟨rfl, rfl, rfl⟩ := ok_inj hm
          refine good_pure fun σ w ρ oe m => ?_
          obtain ⟨h1, h3⟩ := shOp_ok (k' := k') t hv
          refine ⟨_, h1 σ, ?_⟩
          unfold execOp
          simp only [ho, (oe x _ ha).scal_inv rfl, (oe y _ hb).scal_inv rfl, eqGuard_at_int, h3, pure_bind]
          rfl
      cases hk : Nat.beq (ikn k) (ikn k') with
      | false => rw [hk] at hm; exact sh hm
      | true =>
        have := ikn_inj hk; subst this
        rw [hk, bo_true] at hm
        cases hv : intOp op k n n' with
        | none => rw [hv] at hm; exact sh hm
        | some v' =>
          rw [hv, oo_some] at hm
          obtain ⟨rfl, rfl, rfl⟩ := ok_inj hm
          refine good_pure fun σ w ρ oe m => ?_
          obtain ⟨h1, h2⟩ := intOp_ok (P := P) ho hv ((oe x _ ha).scal_inv rfl) ((oe y _ hb).scal_inv rfl) w
          exact ⟨_, h1 σ, h2⟩
    | _ => exact flat_good (not_select_bin ho) hm
  | string s =>
    change binStr s b P G e h nx o op t = _ at hm
    cases b with
    | string s' =>
      obtain ⟨v', hv, hm⟩ := oo_inv (x := strOp op s.data.toList s'.data.toList) hm (by simp)
      obtain ⟨rfl, rfl, rfl⟩ := ok_inj hm
      refine good_pure fun σ w ρ oe m => ?_
      obtain ⟨h1, h2⟩ := strOp_ok (P := P) ho hv ((oe x _ ha).scal_inv rfl) ((oe y _ hb).scal_inv rfl) w
      exact ⟨_, h1 σ, h2⟩
    | _ => cases hm
  | _ => exact binAny_good ho ha hb hm
end
end Go.Proofs.YtklciidffdnglaaDoor
