/- Lemmas that the last text rests on. Condition: each says its own. -/
import Derived.Test.YtadgfojhjnkliaaGreatDoorZb2
import Derived.Lib.ConvBytes
import Derived.OrdersHeld
import Derived.Laws.Tables
import Derived.Great.BuildSlice
import Derived.Laws.BytesString
import Derived.Deep.AppendSrc
import Derived.Laws.AppendOwn
import Derived.Deep.Upon
set_option maxHeartbeats 16000000
set_option maxRecDepth 100000
namespace Go.Proofs.YtadgfojhjnkliaaGreatDoor
open Go.RowKit
section
theorem PI {k k' : IntKind} (h : Nat.beq (ikn k) (ikn k') = true) : k = k' := by
 have := Nat.eq_of_beq_eq_true h
 cases k <;> cases k' <;> first | rfl | cases this
theorem ZF (k : IntKind) (n : Int) : wr k n = k.wrap n := by
 cases n with
 | ofNat m =>
  show bo (Nat.blt m (DJ k)) (Int.ofNat m) (bo k.signed (k.wrap (Int.ofNat m)) (.ofNat (Nat.mod m (DJ k)))) = _
  cases hb : Nat.blt m (DJ k) with
  | false => cases k <;> rfl
  | true =>
   have := AZ hb
   rw [CG]
   have h1 : Int.ofNat m = (m : Int) := rfl
   rw [h1]
   cases k <;> simp only [DJ] at this <;> symm
   ·exact IntWalk.i8_in _ (by omega)
   ·exact IntWalk.i16_in _ (by omega)
   ·exact IntWalk.i32_in _ (by omega)
   ·exact IntWalk.i64_in _ (by omega)
   ·exact IntWalk.u8_in _ (by omega)
   ·exact IntWalk.u16_in _ (by omega)
   ·exact IntWalk.u32_in _ (by omega)
   ·exact IntWalk.u64_in _ (by omega)
 | negSucc m =>
  show bo (k.signed && Nat.blt m (DJ k)) (Int.negSucc m) (k.wrap (Int.negSucc m)) = _
  cases hb : (k.signed && Nat.blt m (DJ k)) with
  | false => rfl
  | true =>
   simp only [Bool.and_eq_true] at hb
   have := AZ hb.2
   have hs := hb.1
   rw [CG]
   cases k <;> simp only [DJ] at this <;> symm
   ·exact IntWalk.i8_in _ (by omega)
   ·exact IntWalk.i16_in _ (by omega)
   ·exact IntWalk.i32_in _ (by omega)
   ·exact IntWalk.i64_in _ (by omega)
   all_goals cases hs
theorem UL (a b : Int) : iEq a b = (a == b) := by
 cases a <;> cases b <;> simp only [iEq]
 ·rename_i m n
  cases hb : Nat.beq m n with
  | true => have := Nat.eq_of_beq_eq_true hb; subst this; simp
  | false => have : m ≠ n := fun e => by subst e; simp at hb
             symm; simp; omega
 ·symm; simp
 ·symm; simp
 ·rename_i m n
  cases hb : Nat.beq m n with
  | true => have := Nat.eq_of_beq_eq_true hb; subst this; simp
  | false => have : m ≠ n := fun e => by subst e; simp at hb
             symm; simp; omega
theorem PM (m n : Nat) : Nat.blt m n = decide (m < n) := by
 cases hb : Nat.blt m n with
 | true => have := AZ hb; simp [this]
 | false => have : ¬ m < n := fun h => by
             have := Nat.ble_eq_true_of_le (show m + 1 ≤ n by omega)
             unfold Nat.blt at hb; rw [this] at hb; cases hb
            simp [this]
theorem rN (a b : Int) : iLt a b = decide (a < b) := by
 cases a <;> cases b <;> simp only [iLt, PM]
 ·rename_i m n; simp
 ·rename_i m n; symm; simp; omega
 ·rename_i m n; symm; simp; omega
 ·rename_i m n
  by_cases hh : n < m
  ·simp only [hh, decide_true]; symm; simp; omega
  ·simp only [hh, decide_false]; symm; simp; omega
theorem N2 : ∀ a b : List UInt8, byEq a b = (a == b)
 | [], [] => rfl
 | [], b :: y => rfl
 | a :: x, [] => rfl
 | a :: x, b :: y => by
  unfold byEq
  cases hb : Nat.beq a.toNat b.toNat with
  | true =>
   have hab : a = b := UInt8.toNat_inj.1 (Nat.eq_of_beq_eq_true hb)
   rw [CG, N2 x y]; subst hab; simp
  | false =>
   have hab : a ≠ b := fun e => by subst e; simp at hb
   rw [BV]; symm; simp [hab]
theorem UY : ∀ a b : List UInt8, byLt a b = Op.bytesLess a b
 | [], [] => rfl
 | [], b :: y => rfl
 | a :: x, [] => rfl
 | a :: x, b :: y => by
  unfold byLt Op.bytesLess
  rw [PM]
  by_cases hlt : a.toNat < b.toNat
  ·have : a < b := UInt8.lt_iff_toNat_lt.2 hlt
   simp [hlt, this, CG]
  ·have h1 : ¬ a < b := fun hh => hlt (UInt8.lt_iff_toNat_lt.1 hh)
   cases hb : Nat.beq a.toNat b.toNat with
   | true =>
    have hab : a = b := UInt8.toNat_inj.1 (Nat.eq_of_beq_eq_true hb)
    subst hab
    simp [BV, CG, UY x y]
   | false =>
    have hab : a ≠ b := fun e => by subst e; simp at hb
    simp [hlt, h1, hab, BV]
theorem L8 : ∀ a b : List UInt8, (!Op.bytesLess b a) = (Op.bytesLess a b || a == b)
 | [], [] => rfl
 | [], b :: y => rfl
 | a :: x, [] => rfl
 | a :: x, b :: y => by
  unfold Op.bytesLess
  have ih := L8 x y
  by_cases h1 : a = b
  ·subst h1
   have : ¬ a < a := UInt8.lt_irrefl a
   simpa [this] using ih
  ·have h2 : b ≠ a := fun e => h1 e.symm
   by_cases h3 : a < b
   ·have : ¬ b < a := UInt8.lt_asymm h3
    simp [h2, h3, this]
   ·have : b < a := by
     rcases Nat.lt_trichotomy a.toNat b.toNat with h4 | h4 | h4
     ·exact absurd (UInt8.lt_iff_toNat_lt.2 h4) h3
     ·exact absurd (UInt8.toNat_inj.1 h4) h1
     ·exact UInt8.lt_iff_toNat_lt.2 h4
    simp [h1, h3, this]
section
variable {P : Program} {G : Nat} {o : Oper} {e : Tb Value} {h h' : Hp} {nx nx' : Nat} {v : Value}
theorem EU {op : BinOp} {t t' : TypeId} {x y : Operand} (ho : o.op = .binOp op t x y t') : ∀ cs b, o.op ≠ .select cs b := fun cs b hh => by rw [ho] at hh; cases hh
theorem KW {t el : Nat} {w : World} (hu : P.underlying t = some (.pointer el)) (a : Option Addr) : (Op.equal t (.pointer none) (.pointer a)).run P w = .ok a.isNone w := by
 unfold Op.equal Op.maxDepth Op.equalIn
 cases a <;> simp [run_underlying hu]
theorem WV {σ : Sg} {t : TypeId} {a b u u' : Value} {r : Bool} (hr : OT P t a b = some r) (ha : VR σ a u) (hb : VR σ b u') (w : World) : (Op.equal t u u').run P w = .ok r w ∧ (∀ op x y, eqGuard op t x y u u' = pure ()) ∧ (binOp .eql t u u' = do pure (.bool (← Op.equal t u u'))) ∧ (binOp .neq t u u' = do pure (.bool (!(← Op.equal t u u')))) := by
 unfold OT at hr
 split at hr
 ·rename_i a
  obtain ⟨el, hel, rfl⟩ := Option.map_eq_some_iff.1 hr
  have hu := I6 hel
  have hb := hb.scal_inv rfl
  subst hb
  cases a with
  | none =>
   have := ha.scal_inv rfl; subst this
   exact ⟨IT hu _, fun op x y => eqGuard_at_pointer .., rfl, rfl⟩
  | some a =>
   obtain ⟨id, off, sp⟩ := a
   cases sp with
   | some z => cases ha with | sc _ hs _ => cases hs
   | none =>
    obtain ⟨L, _, rfl⟩ := ha.ptr_inv
    exact ⟨IT hu _, fun op x y => eqGuard_at_pointer .., rfl, rfl⟩
 ·rename_i a _
  obtain ⟨el, hel, rfl⟩ := Option.map_eq_some_iff.1 hr
  have hu := I6 hel
  have ha := ha.scal_inv rfl
  subst ha
  cases a with
  | none =>
   have := hb.scal_inv rfl; subst this
   exact ⟨KW hu _, fun op x y => eqGuard_at_pointer .., rfl, rfl⟩
  | some a =>
   obtain ⟨id, off, sp⟩ := a
   cases sp with
   | some z => cases hb with | sc _ hs _ => cases hs
   | none =>
    obtain ⟨L, _, rfl⟩ := hb.ptr_inv
    exact ⟨KW hu _, fun op x y => eqGuard_at_pointer .., rfl, rfl⟩
 ·rename_i a i b j
  split at hr
  ·rename_i el hel
   split at hr
   ·rename_i n hn
    obtain ⟨hab, hr⟩ := BE hr (by simp)
    injection hr with hr; subst hr
    have hab := Nat.eq_of_beq_eq_true hab
    subst hab
    have hu := I6 hel
    obtain ⟨L, hL, rfl⟩ := ha.ptr_inv
    obtain ⟨L', hL', rfl⟩ := hb.ptr_inv
    rw [hL] at hL'; injection hL' with hL'; subst hL'
    obtain ⟨inf, hi, hs⟩ := K1 hn
    refine ⟨?_, fun op x y => eqGuard_at_pointer .., rfl, rfl⟩
    have hbq : (({ block := L.blk, off := L.base + i, spot := none } : Addr) == { block := L.blk, off := L.base + j, spot := none }) = Nat.beq i j := by
     cases hij : Nat.beq i j with
     | true => have := Nat.eq_of_beq_eq_true hij; subst this; simp
     | false => have : i ≠ j := fun e => by subst e; simp at hij
                rw [beq_eq_false_iff_ne]; intro hh; injection hh with _ h2 _; omega
    unfold Op.equal Op.maxDepth Op.equalIn
    simp [run_underlying hu, sizeOf, typeInfo, hi, hs, sameAddr, hbq]
   ·cases hr
  ·cases hr
 ·rename_i a _ _ _ _
  obtain ⟨p, hel, rfl⟩ := Option.map_eq_some_iff.1 hr
  obtain ⟨el, s⟩ := p
  obtain ⟨hu, _⟩ := JH hel
  have hb := hb.scal_inv rfl
  subst hb
  cases a with
  | none =>
   have := ha.scal_inv rfl; subst this
   refine ⟨?_, fun op x y => eqGuard_at_slice .., rfl, rfl⟩
   unfold Op.equal Op.maxDepth Op.equalIn
   simp [run_underlying hu]
  | some a =>
   obtain ⟨id, off, sp⟩ := a
   obtain ⟨L, A, c', hL, rfl, _⟩ := ha.slice_any
   refine ⟨?_, fun op x y => eqGuard_at_slice .., rfl, rfl⟩
   unfold Op.equal Op.maxDepth Op.equalIn
   simp [run_underlying hu]
 ·rename_i a
  split at hr
  ·rename_i k el hu
   injection hr with hr; subst hr
   have hb := hb.scal_inv rfl
   subst hb
   cases a with
   | none =>
    have := ha.scal_inv rfl; subst this
    refine ⟨?_, fun op x y => eqGuard_at_map .., rfl, rfl⟩
    unfold Op.equal Op.maxDepth Op.equalIn
    simp [run_underlying hu]
   | some id =>
    obtain ⟨L, hL, rfl⟩ := ha.map_inv
    refine ⟨?_, fun op x y => eqGuard_at_map .., rfl, rfl⟩
    unfold Op.equal Op.maxDepth Op.equalIn
    simp [run_underlying hu]
  ·cases hr
 ·rename_i f xs ys
  split at hr
  ·rename_i ps rs va hu
   injection hr with hr; subst hr
   have hb := hb.scal_inv rfl
   subst hb
   cases ha with
   | sc _ hs _ => cases hs
   | func f _ _ _ =>
    refine ⟨?_, fun op x y => eqGuard_at_func .., rfl, rfl⟩
    unfold Op.equal Op.maxDepth Op.equalIn
    simp [run_underlying hu]
   | yld _ _ =>
    refine ⟨?_, fun op x y => eqGuard_at_func .., rfl, rfl⟩
    unfold Op.equal Op.maxDepth Op.equalIn
    simp [run_underlying hu]
  ·cases hr
 ·split at hr
  ·rename_i ps rs va hu
   injection hr with hr; subst hr
   have ha := ha.scal_inv rfl
   have hb := hb.scal_inv rfl
   subst ha; subst hb
   refine ⟨?_, fun op x y => eqGuard_at_nilFunc .., rfl, rfl⟩
   unfold Op.equal Op.maxDepth Op.equalIn
   simp [run_underlying hu]
  ·cases hr
 ·cases hr
theorem Y7 (a b : Int) : (!decide (b < a)) = decide (a ≤ b) := by
 by_cases hh : b < a
 ·have : ¬ a ≤ b := by omega
  simp [hh]
 ·have : a ≤ b := by omega
  simp [this]
theorem NF (n m : Nat) : BitVec.ofInt n (Int.ofNat m) = BitVec.ofNat n m := by
 show BitVec.ofInt n (m : Int) = _
 simp
theorem jB (k : IntKind) : DJ k ≤ 2 ^ k.bits := by cases k <;> decide
theorem eC (k : IntKind) : ∃ e, DJ k = 2 ^ e := by
 cases k
 ·exact ⟨7, rfl⟩
 ·exact ⟨15, rfl⟩
 ·exact ⟨31, rfl⟩
 ·exact ⟨63, rfl⟩
 ·exact ⟨8, rfl⟩
 ·exact ⟨16, rfl⟩
 ·exact ⟨32, rfl⟩
 ·exact ⟨64, rfl⟩
theorem JE (k : IntKind) (m : Nat) (h : m < DJ k) : k.wrap (m : Int) = Int.ofNat m := by
 rw [← ZF]
 show bo (Nat.blt m (DJ k)) (Int.ofNat m) _ = _
 rw [PM]
 simp [h, bo]
theorem RT {k : IntKind} {a b r : Nat} {op : BinOp} (ha : a < DJ k) (hb : b < DJ k) (hop : (op = .and ∧ r = a &&& b) ∨ (op = .or ∧ r = a ||| b) ∨ (op = .xor ∧ r = a ^^^ b)) : Op.intBits op k (Int.ofNat a) (Int.ofNat b) = pure (.int k (Int.ofNat r)) := by
 obtain ⟨e, he⟩ := eC k
 have hl := jB k
 have h1 : a % 2 ^ k.bits = a := Nat.mod_eq_of_lt (by omega)
 have h2 : b % 2 ^ k.bits = b := Nat.mod_eq_of_lt (by omega)
 rcases hop with ⟨rfl, rfl⟩ | ⟨rfl, rfl⟩ | ⟨rfl, rfl⟩
 ·have : a &&& b < DJ k := Nat.lt_of_le_of_lt Nat.and_le_left ha
  unfold Op.intBits
  simp only [NF, BitVec.toNat_and, BitVec.toNat_ofNat, h1, h2, JE k _ this]
 ·have : a ||| b < DJ k := by rw [he] at ha hb ⊢; exact Nat.or_lt_two_pow ha hb
  unfold Op.intBits
  simp only [NF, BitVec.toNat_or, BitVec.toNat_ofNat, h1, h2, JE k _ this]
 ·have : a ^^^ b < DJ k := by rw [he] at ha hb ⊢; exact Nat.xor_lt_two_pow ha hb
  unfold Op.intBits
  simp only [NF, BitVec.toNat_xor, BitVec.toNat_ofNat, h1, h2, JE k _ this]
theorem n8 {k : IntKind} {a b : Nat} (ha : a < DJ k) (hb : 0 < b) : Op.intDiv .quo k (Int.ofNat a) (Int.ofNat b) = pure (.int k (Int.ofNat (a / b))) := by
 have h0 : ¬ Int.ofNat b = 0 := fun hh => by injection hh with hh; omega
 have h1 : Int.tdiv (Int.ofNat a) (Int.ofNat b) = ((a / b : Nat) : Int) := rfl
 have h2 : a / b < DJ k := Nat.lt_of_le_of_lt (Nat.div_le_self a b) ha
 unfold Op.intDiv
 rw [if_neg h0]
 simp only [h1, JE k _ h2]
theorem mX {k : IntKind} {a b : Nat} (hb : 0 < b) : Op.intDiv .rem k (Int.ofNat a) (Int.ofNat b) = pure (.int k (Int.ofNat (a % b))) := by
 have h0 : ¬ Int.ofNat b = 0 := fun hh => by injection hh with hh; omega
 unfold Op.intDiv
 rw [if_neg h0]
 rfl
theorem oE {op : BinOp} {k : IntKind} {a b : Int} (t : TypeId) (hop : op = .and ∨ op = .or ∨ op = .xor ∨ op = .quo ∨ op = .rem) (hv : L4 op k a b = some v) : (∀ σ, VR σ v v) ∧ binOp op t (.int k a) (.int k b) = pure v := by
 have two : ∀ {f : Nat → Nat → Option Value}, (match a, b with | .ofNat a, .ofNat b => f a b | _, _ => none) = some v → ∃ m n, a = .ofNat m ∧ b = .ofNat n ∧ f m n = some v := fun {f} h => by
  cases a with
  | negSucc => cases h
  | ofNat m => cases b with
   | negSucc => cases h
   | ofNat n => exact ⟨m, n, rfl, rfl, h⟩
 have fin : ∀ r : Nat, v = .int k (.ofNat r) → ∀ σ, VR σ v v := fun r h σ => by subst h; exact VR.int
 rcases hop with rfl | rfl | rfl | rfl | rfl
 ·obtain ⟨m, n, rfl, rfl, h⟩ := two (f := fun a b => bo (Nat.blt a (DJ k) && Nat.blt b (DJ k)) (some (.int k (.ofNat (Nat.land a b)))) none) (by cases a <;> cases b <;> exact hv)
  obtain ⟨h1, h2⟩ := BE h (by simp)
  simp only [Bool.and_eq_true] at h1
  injection h2 with h2
  exact ⟨fin _ h2.symm, by rw [binOp_and, RT (AZ h1.1) (AZ h1.2) (.inl ⟨rfl, rfl⟩), ← h2]; rfl⟩
 ·obtain ⟨m, n, rfl, rfl, h⟩ := two (f := fun a b => bo (Nat.blt a (DJ k) && Nat.blt b (DJ k)) (some (.int k (.ofNat (Nat.lor a b)))) none) (by cases a <;> cases b <;> exact hv)
  obtain ⟨h1, h2⟩ := BE h (by simp)
  simp only [Bool.and_eq_true] at h1
  injection h2 with h2
  exact ⟨fin _ h2.symm, by rw [binOp_or, RT (AZ h1.1) (AZ h1.2) (.inr (.inl ⟨rfl, rfl⟩)), ← h2]; rfl⟩
 ·obtain ⟨m, n, rfl, rfl, h⟩ := two (f := fun a b => bo (Nat.blt a (DJ k) && Nat.blt b (DJ k)) (some (.int k (.ofNat (Nat.xor a b)))) none) (by cases a <;> cases b <;> exact hv)
  obtain ⟨h1, h2⟩ := BE h (by simp)
  simp only [Bool.and_eq_true] at h1
  injection h2 with h2
  exact ⟨fin _ h2.symm, by rw [binOp_xor, RT (AZ h1.1) (AZ h1.2) (.inr (.inr ⟨rfl, rfl⟩)), ← h2]; rfl⟩
 ·obtain ⟨m, n, rfl, rfl, h⟩ := two (f := fun a b => bo (Nat.blt a (DJ k) && Nat.blt 0 b) (some (.int k (.ofNat (Nat.div a b)))) none) (by cases a <;> cases b <;> exact hv)
  obtain ⟨h1, h2⟩ := BE h (by simp)
  simp only [Bool.and_eq_true] at h1
  injection h2 with h2
  exact ⟨fin _ h2.symm, by rw [binOp_quo, n8 (AZ h1.1) (AZ h1.2), ← h2]; rfl⟩
 ·obtain ⟨m, n, rfl, rfl, h⟩ := two (f := fun a b => bo (Nat.blt 0 b) (some (.int k (.ofNat (Nat.mod a b)))) none) (by cases a <;> cases b <;> exact hv)
  obtain ⟨h1, h2⟩ := BE h (by simp)
  injection h2 with h2
  exact ⟨fin _ h2.symm, by rw [binOp_rem, mX (AZ h1), ← h2]; rfl⟩
theorem mV {op : BinOp} {k k' : IntKind} {a b : Int} (t : TypeId) (hv : P4 op k a b = some v) : (∀ σ, VR σ v v) ∧ binOp op t (.int k a) (.int k' b) = pure v := by
 have hb : k.bits = YM k := by cases k <;> rfl
 have fin : ∀ r : Int, v = .int k r → ∀ σ, VR σ v v := fun r h σ => by subst h; exact VR.int
 unfold P4 at hv
 split at hv
 ·split at hv
  ·rename_i m n
   obtain ⟨h1, h2⟩ := BE hv (by simp)
   have h1 := Nat.le_of_ble_eq_true h1
   injection h2 with h2
   refine ⟨fin _ h2.symm, ?_⟩
   have hn : min (Int.ofNat n).toNat k.bits = n := by rw [hb]; exact Nat.min_eq_left h1
   have h0 : ¬ Int.ofNat n < 0 := Int.not_lt.2 (Int.natCast_nonneg n)
   have he : (Int.ofNat m * 2 ^ n : Int) = Int.ofNat (m * 2 ^ n) := by
    show (m : Int) * 2 ^ n = ((m * 2 ^ n : Nat) : Int)
    simp
   rw [binOp_shl, ← h2, ZF]
   unfold Op.shift
   rw [if_neg h0]
   simp only [hn, he]
   rfl
  ·cases hv
 ·split at hv
  ·rename_i m n
   obtain ⟨h1, h2⟩ := BE hv (by simp)
   have h1 := Nat.le_of_ble_eq_true h1
   injection h2 with h2
   refine ⟨fin _ h2.symm, ?_⟩
   have hn : min (Int.ofNat n).toNat k.bits = n := by rw [hb]; exact Nat.min_eq_left h1
   have h0 : ¬ Int.ofNat n < 0 := Int.not_lt.2 (Int.natCast_nonneg n)
   have he : Int.fdiv (Int.ofNat m) (2 ^ n) = Int.ofNat (m / 2 ^ n) := by
    show Int.fdiv (m : Int) (2 ^ n) = ((m / 2 ^ n : Nat) : Int)
    rw [show (2 ^ n : Int) = ((2 ^ n : Nat) : Int) by simp, Int.ofNat_fdiv]
   rw [binOp_shr, ← h2]
   unfold Op.shift
   rw [if_neg h0]
   simp only [hn, he]
   rfl
  ·cases hv
 ·cases hv
theorem j8 {op : BinOp} {k : IntKind} {a b : Int} {t t' : TypeId} {x y : Operand} (ho : o.op = .binOp op t x y t') (hv : L4 op k a b = some v) {ρ : Operand → Value} (hx : ρ x = .int k a) (hy : ρ y = .int k b) (w : World) :
 (∀ σ, VR σ v v) ∧ (execOp ρ o).run P w = .ok (.value v) w := by
 have fast : (op = .and ∨ op = .or ∨ op = .xor ∨ op = .quo ∨ op = .rem) → (∀ σ, VR σ v v) ∧ (execOp ρ o).run P w = .ok (.value v) w := fun hop => by
  obtain ⟨h1, h3⟩ := oE t hop hv
  refine ⟨h1, ?_⟩
  unfold execOp
  simp only [ho, hx, hy, eqGuard_at_int, h3, pure_bind]
  rfl
 unfold L4 at hv
 split at hv
 all_goals first
  | (refine fast ?_; simp; done)
  | (injection hv with hv; subst hv
     refine ⟨fun σ => .sc _ rfl .nil, ?_⟩
     unfold execOp
     simp only [ho, hx, hy, eqGuard_at_int, pure_bind, binOp_add, binOp_sub, binOp_mul, binOp_eql, binOp_neq, binOp_lss, binOp_leq, binOp_gtr, binOp_geq, Op.intArith, ZF, UL, rN, Y7]
     rfl)
  | cases hv
theorem sA (t : TypeId) (a b : ByteArray) : binOp .leq t (.string a) (.string b) = pure (.bool (Op.bytesLess a.toList b.toList || a.toList == b.toList)) := by simp [binOp, Op.stringOp]
theorem sB (t : TypeId) (a b : ByteArray) : binOp .gtr t (.string a) (.string b) = pure (.bool !(Op.bytesLess a.toList b.toList || a.toList == b.toList)) := by simp [binOp, Op.stringOp]
theorem sC (t : TypeId) (a b : ByteArray) : binOp .geq t (.string a) (.string b) = pure (.bool !(Op.bytesLess a.toList b.toList)) := by simp [binOp, Op.stringOp]
theorem gD {op : BinOp} {a b : ByteArray} {t t' : TypeId} {x y : Operand} (ho : o.op = .binOp op t x y t') (hv : VK op a.data.toList b.data.toList = some v) {ρ : Operand → Value} (hx : ρ x = .string a) (hy : ρ y = .string b) (w : World) :
 (∀ σ, VR σ v v) ∧ (execOp ρ o).run P w = .ok (.value v) w := by
 have e1 : byEq a.data.toList b.data.toList = (a.toList == b.toList) := by rw [N2, Lib.toList_data, Lib.toList_data]
 have e2 : byLt a.data.toList b.data.toList = Op.bytesLess a.toList b.toList := by rw [UY, Lib.toList_data, Lib.toList_data]
 have e3 : (!byLt b.data.toList a.data.toList) = (Op.bytesLess a.toList b.toList || a.toList == b.toList) := by rw [UY, L8, Lib.toList_data, Lib.toList_data]
 have e4 : byLt b.data.toList a.data.toList = !(Op.bytesLess a.toList b.toList || a.toList == b.toList) := by rw [← e3]; simp
 unfold VK at hv
 split at hv
 ·obtain ⟨hle, hv⟩ := BE hv (by simp)
  injection hv with hv; subst hv
  have hle := Nat.le_of_ble_eq_true hle
  refine ⟨fun σ => .sc _ rfl .nil, ?_⟩
  have h1 : a.size = a.data.toList.length := by obtain ⟨d⟩ := a; rfl
  have h2 : b.size = b.data.toList.length := by obtain ⟨d⟩ := b; rfl
  have h3 : ¬ (((a.size + b.size : Nat) : Int) > IntKind.i64.max) := by
   have : IntKind.i64.max = 9223372036854775807 := rfl
   rw [this]; omega
  have h4 : a ++ b = (⟨⟨a.data.toList ++ b.data.toList⟩⟩ : ByteArray) := by
   obtain ⟨⟨d⟩⟩ := a; obtain ⟨⟨d'⟩⟩ := b
   apply ByteArray.ext; simp
  unfold execOp
  simp only [ho, hx, hy, eqGuard_at_string, pure_bind, binOp_string_add, Op.stringOp, if_neg h3, h4]
  rfl
 ·injection hv with hv; subst hv
  exact ⟨fun σ => .sc _ rfl .nil, by unfold execOp; simp only [ho, hx, hy, eqGuard_at_string, pure_bind, binOp_string_eql, e1]; rfl⟩
 ·injection hv with hv; subst hv
  exact ⟨fun σ => .sc _ rfl .nil, by unfold execOp; simp only [ho, hx, hy, eqGuard_at_string, pure_bind, binOp_string_neq, e1]; rfl⟩
 ·injection hv with hv; subst hv
  exact ⟨fun σ => .sc _ rfl .nil, by unfold execOp; simp only [ho, hx, hy, eqGuard_at_string, pure_bind, binOp_string_lss, e2]; rfl⟩
 ·injection hv with hv; subst hv
  exact ⟨fun σ => .sc _ rfl .nil, by unfold execOp; simp only [ho, hx, hy, eqGuard_at_string, pure_bind, sA, e3]; rfl⟩
 ·injection hv with hv; subst hv
  exact ⟨fun σ => .sc _ rfl .nil, by unfold execOp; simp only [ho, hx, hy, eqGuard_at_string, pure_bind, sB, e4]; rfl⟩
 ·injection hv with hv; subst hv
  exact ⟨fun σ => .sc _ rfl .nil, by unfold execOp; simp only [ho, hx, hy, eqGuard_at_string, pure_bind, sC, e2]; rfl⟩
 ·cases hv
theorem XC {op : BinOp} {t t' : TypeId} {x y : Operand} {a b : Value} (ho : o.op = .binOp op t x y t') (ha : evO G e x = some a) (hb : evO G e y = some b) (hm : O7 a b P G e h nx o op t = .ok v h' nx') : Good P G o e h nx v h' nx' := by
 unfold O7 at hm
 split at hm
 ·cases hq : OT P t a b with
  | none => rw [hq] at hm; exact ED (EU ho) hm
  | some r =>
   rw [hq, HU] at hm
   obtain ⟨rfl, rfl, rfl⟩ := BF hm
   refine BC fun σ w ρ oe m => ?_
   obtain ⟨h1, h2, h3, h4⟩ := WV hq (oe x _ ha) (oe y _ hb) w
   refine ⟨.bool r, VR.bool, ?_⟩
   unfold execOp
   simp only [ho, h2, pure_bind, h3]
   simp [h1]
 ·cases hq : OT P t a b with
  | none => rw [hq] at hm; exact ED (EU ho) hm
  | some r =>
   rw [hq, HU] at hm
   obtain ⟨rfl, rfl, rfl⟩ := BF hm
   refine BC fun σ w ρ oe m => ?_
   obtain ⟨h1, h2, h3, h4⟩ := WV hq (oe x _ ha) (oe y _ hb) w
   refine ⟨.bool (!r), VR.bool, ?_⟩
   unfold execOp
   simp only [ho, h2, pure_bind, h4]
   simp [h1]
 ·exact ED (EU ho) hm
theorem lE {op : BinOp} {t t' : TypeId} {x y : Operand} (ho : o.op = .binOp op t x y t') (hm : dN P G e h nx o op t (evO G e x) (evO G e y) = .ok v h' nx') : Good P G o e h nx v h' nx' := by
 obtain ⟨a, ha, hm⟩ := D9 hm (by simp)
 obtain ⟨b, hb, hm⟩ := D9 hm (by simp)
 cases a with
 | int k n =>
  change RU k n b P G e h nx o op t = _ at hm
  cases b with
  | int k' n' =>
   change bo (Nat.beq (ikn k) (ikn k')) (oo (L4 op k n n') (oo (P4 op k n n') (DW P G e h nx o) (fun v => .ok v h nx)) (fun v => .ok v h nx)) (oo (P4 op k n n') (DW P G e h nx o) (fun v => .ok v h nx)) = _ at hm
   have sh : oo (P4 op k n n') (DW P G e h nx o) (fun v => .ok v h nx) = .ok v h' nx' → Good P G o e h nx v h' nx' := fun hm => by
    cases hv : P4 op k n n' with
    | none => rw [hv] at hm; exact ED (EU ho) hm
    | some v' =>
     rw [hv, HU] at hm
     obtain ⟨rfl, rfl, rfl⟩ := BF hm
     refine BC fun σ w ρ oe m => ?_
     obtain ⟨h1, h3⟩ := mV (k' := k') t hv
     refine ⟨_, h1 σ, ?_⟩
     unfold execOp
     simp only [ho, (oe x _ ha).scal_inv rfl, (oe y _ hb).scal_inv rfl, eqGuard_at_int, h3, pure_bind]
     rfl
   cases hk : Nat.beq (ikn k) (ikn k') with
   | false => rw [hk] at hm; exact sh hm
   | true =>
    have := PI hk; subst this
    rw [hk, CG] at hm
    cases hv : L4 op k n n' with
    | none => rw [hv] at hm; exact sh hm
    | some v' =>
     rw [hv, HU] at hm
     obtain ⟨rfl, rfl, rfl⟩ := BF hm
     refine BC fun σ w ρ oe m => ?_
     obtain ⟨h1, h2⟩ := j8 (P := P) ho hv ((oe x _ ha).scal_inv rfl) ((oe y _ hb).scal_inv rfl) w
     exact ⟨_, h1 σ, h2⟩
  | _ => exact ED (EU ho) hm
 | string s =>
  change Z6 s b P G e h nx o op t = _ at hm
  cases b with
  | string s' =>
   obtain ⟨v', hv, hm⟩ := D9 (x := VK op s.data.toList s'.data.toList) hm (by simp)
   obtain ⟨rfl, rfl, rfl⟩ := BF hm
   refine BC fun σ w ρ oe m => ?_
   obtain ⟨h1, h2⟩ := gD (P := P) ho hv ((oe x _ ha).scal_inv rfl) ((oe y _ hb).scal_inv rfl) w
   exact ⟨_, h1 σ, h2⟩
  | _ => cases hm
 | _ => exact XC ho ha hb hm
end
end
section
def HL (ops : Array Oper) (h t : Nat) : Bool := (List.range ops.size).all fun j => decide (j < t) || (List.range h).all fun i => Region.waitsFor .any ops j i
def I3 (P : Program) (ops : Array Oper) (Q : Exit → Act → World → Prop) (t : Nat) (S : World → Prop) : Nat → Array Bool → Act → World → Prop
 | 0, listed, a, w => Region.ready .any ops listed = [] ∧ Q .normal a w
 | fuel + 1, listed, a, w =>
  (Region.ready .any ops listed = [] → Q .normal a w) ∧
  ∀ i ∈ Region.ready .any ops listed, wpOp P ops Q i (fun a' w' => (i < t → S w') ∧ I3 P ops Q t S fuel (listed.setIfInBounds i true) a' w') a w
section
variable {P : Program} {ops : Array Oper} {Q : Exit → Act → World → Prop} {S : World → Prop} {h t : Nat}
theorem PT : ∀ (fuel : Nat) (listed : Array Bool) (a : Act) (w : World), I3 P ops Q t S fuel listed a w → wpAny P .any ops Q fuel listed a w
 | 0, _, _, _, h => h
 | fuel + 1, _, _, _, h => ⟨h.1, fun i hi => wpOp_mono (fun a' w' h' => PT fuel _ a' w' h'.2) (h.2 i hi)⟩
theorem JF {i : Nat} {oi : Oper} {v : Value} (hi : ops[i]? = some oi) (hsel : ∀ (j : Nat) (o : Oper) cs b, ops[j]? = some o → o.op ≠ .select cs b)
 (hQ : ∀ c a w, Q (.panic c) (a.put oi.dst v) w → Q (.panic c) a w) (hwait : HL ops h t = true) (hih : i < h) :
 ∀ (fuel : Nat) (listed : Array Bool) (a : Act) (w : World),
  (∀ j oj, ops[j]? = some oj → j ≠ i → listed.getD j true = false → (∀ e ∈ oj.after, Region.binds .any e = true → e.on ≠ i) → oi.apart ops oj = true) →
  i ∈ Region.ready .any ops listed → YieldsIf P ops S oi v a → S w →
  I3 P ops Q t S fuel (listed.setIfInBounds i true) (a.put oi.dst v) w → I3 P ops Q t S (fuel + 1) listed a w := by
 intro fuel
 induction fuel with
 | zero =>
  intro listed a w _ hr hy hS H
  refine ⟨fun h => (by rw [h] at hr; cases hr), fun j hj => ?_⟩
  by_cases hji : j = i
  ·subst hji; exact hy.wpOp hi hS ⟨fun _ => hS, H⟩
  ·have := ready_mono hj hji
   rw [H.1] at this
   cases this
 | succ fuel ih =>
  intro listed a w hfree hr hy hS H
  refine ⟨fun h => (by rw [h] at hr; cases hr), fun j hj => ?_⟩
  by_cases hji : j = i
  ·subst hji; exact hy.wpOp hi hS ⟨fun _ => hS, H⟩
  ·have h1 := H.2 j (ready_mono hj hji)
   obtain ⟨hjun, oj, hoj, hall⟩ := mem_ready.1 hj
   have hnot : ∀ e ∈ oj.after, Region.binds .any e = true → e.on ≠ i := fun e he hb heq => by
    have h1 := hall e he hb
    have h0 := (mem_ready.1 hr).1
    rw [heq, getD_both h0] at h1
    cases h1
   have hjt : j < t := by
    have h2 := List.all_eq_true.1 hwait j (List.mem_range.2 (Array.getElem?_eq_some_iff.1 hoj).1)
    simp only [Bool.or_eq_true, decide_eq_true_eq] at h2
    rcases h2 with h2 | h2
    ·exact h2
    ·obtain ⟨o', ho', e, he, hb, hon⟩ := Region.waitsFor_spec (List.all_eq_true.1 h2 i (List.mem_range.2 hih))
     rw [hoj] at ho'
     injection ho' with ho'
     subst ho'
     exact absurd hon (hnot e he hb)
   have h2 := wpOp_putIf hoj (hfree j oj hoj hji hjun hnot) (fun cs b => hsel i oi cs b hi) (fun cs b => hsel j oj cs b hoj) hQ hy h1
   have hfree' : ∀ k ok, ops[k]? = some ok → k ≠ i → (listed.setIfInBounds j true).getD k true = false →
    (∀ e ∈ ok.after, Region.binds .any e = true → e.on ≠ i) → oi.apart ops ok = true := fun k ok hk hki hun hno => by
    refine hfree k ok hk hki ?_ hno
    by_cases hjk : j = k
    ·subst hjk; exact hjun
    ·rw [getD_set_ne true hjk] at hun; exact hun
   refine wpOp_mono (fun a' w' h3 => ⟨h3.2.1, ih (listed.setIfInBounds j true) a' w' hfree' (ready_mono hr (Ne.symm hji)) h3.1 (h3.2.1 hjt) ?_⟩) h2
   rw [Array.setIfInBounds_comm _ _ hji]
   exact h3.2.2
theorem KU : ∀ (fuel : Nat) (listed : Array Bool) (a : Act) (w : World), (∀ i, i < t → listed.getD i true = true) → wpAny P .any ops Q fuel listed a w → I3 P ops Q t S fuel listed a w
 | 0, _, _, _, _, h => h
 | fuel + 1, listed, _, _, hd, h => by
  refine ⟨h.1, fun i hi => wpOp_mono (fun a' w' h' => ?_) (h.2 i hi)⟩
  have hno : ¬ i < t := fun hit => by
   have h0 := (mem_ready.1 hi).1
   rw [hd i hit] at h0; cases h0
  refine ⟨fun hit => absurd hit hno, KU fuel _ a' w' (fun k hk => ?_) h'⟩
  rw [getD_set_ne true (fun e : i = k => hno (by omega))]; exact hd k hk
structure SxO (P : Program) (ops : Array Oper) (Q : Exit → Act → World → Prop) (t : Nat) (S : World → Prop) (n f : Nat) (listed : Array Bool) (e : Env) (w : World) : Prop where
 run : ∀ a, Agr n e a → I3 P ops Q t S f listed a w
variable {n f : Nat} {listed : Array Bool} {e : Env} {w : World}
theorem D8 {id : Nat} {l : List Oper} (t : Nat) (S : World → Prop) (hm : P.follows .mixedOrders = true) (k : SxO P l.toArray Q t S n l.length (Array.replicate l.length false) e w.drew) : Sx P (Code.region id l.toArray true) Q n e w := ⟨fun a ha => by
 refine wp_region_any hm (PT (t := t) (S := S) _ _ _ _ ?_)
 simpa using k.run a ha⟩
theorem ZP {o : Oper} {d : Nat} {v : Value} (i h : Nat) (hs : Region.noSelect ops = true) (hQ : ∀ c (a : Act) t v w, Q (.panic c) (a.put t v) w → Q (.panic c) a w) (hwait : HL ops h t = true) (hih : Nat.blt i h = true)
 (hf : Region.free .any ops listed i = true) (hr : (Region.ready .any ops listed).contains i = true) (ho : ops[i]? = some o) (hw : Wn ops e o) (hd : o.dst = some d) (hn : Nat.blt d n = true) (hS : S w) (hy : ∀ w', S w' → Y P e o w' v)
 (k : SxO P ops Q t S n f (listed.setIfInBounds i true) ((d, v) :: e) w) : SxO P ops Q t S n (f + 1) listed e w := ⟨fun a ha =>
 JF ho (Region.noSelect_spec hs) (fun c a w => hQ c a _ _ w) hwait (AZ hih) f listed a w (Region.free_spec ho hf) (by simpa using hr) (.inl ⟨hw n a ha, fun w' hw' => hy w' hw' _ ha.eval⟩) hS (by
  rw [hd]; exact k.run _ (ha.put (AZ hn) v))⟩
theorem oa {o : Oper} {d : Nat} {v : Value} (i h : Nat) (ho : ops[i]? = some o) (hd : (o.guard, o.dst, Nat.blt d n) = (none, some d, true)) (hS : S w) (hy : ∀ w', S w' → Y P e o w' v) (k : SxO P ops Q t S n f (listed.setIfInBounds i true) ((d, v) :: e) w) (hs : Region.noSelect ops = true := by kernel_rfl) (hQ : ∀ c (a : Act) t v w, Q (.panic c) (a.put t v) w → Q (.panic c) a w := by exact fun c a t v w h => by cases t <;> exact h) (hwait : HL ops h t = true := by kernel_rfl) (hih : Nat.blt i h = true := by exact rfl) (hf : Region.free .any ops listed i = true := by kernel_rfl) (hr : (Region.ready .any ops listed).contains i = true := by kernel_rfl) : SxO P ops Q t S n (f + 1) listed e w :=
 ZP i h hs hQ hwait hih hf hr ho (A9 (Prod.mk.inj hd).1) (Prod.mk.inj (Prod.mk.inj hd).2).1 (Prod.mk.inj (Prod.mk.inj hd).2).2 hS hy k
theorem ob {o : Oper} {d : Nat} {v : Value} (i h : Nat) (ho : ops[i]? = some o) (hw : Wn ops e o) (hd : o.dst = some d) (hn : Nat.blt d n = true) (hS : S w) (hy : ∀ w', S w' → Y P e o w' v) (k : SxO P ops Q t S n f (listed.setIfInBounds i true) ((d, v) :: e) w) (hs : Region.noSelect ops = true := by kernel_rfl) (hQ : ∀ c (a : Act) t v w, Q (.panic c) (a.put t v) w → Q (.panic c) a w := by exact fun c a t v w h => by cases t <;> exact h) (hwait : HL ops h t = true := by kernel_rfl) (hih : Nat.blt i h = true := by exact rfl) (hf : Region.free .any ops listed i = true := by kernel_rfl) (hr : (Region.ready .any ops listed).contains i = true := by kernel_rfl) : SxO P ops Q t S n (f + 1) listed e w :=
 ZP i h hs hQ hwait hih hf hr ho hw hd hn hS hy k
theorem B3 {o : Oper} {R : Value → World → Prop} (i : Nat) (d : Option Tmp) (hr : Region.ready .any ops listed = [i]) (ho : ops[i]? = some o) (hw : Wn ops e o) (hd : o.dst = d) (hn : MZ n d = true) (hy : ∀ ρ, Ag e ρ → G8 P ρ o w R)
 (k : ∀ v w', R v w' → (i < t → S w') ∧ SxO P ops Q t S n f (listed.setIfInBounds i true) (e.ins d v) w') : SxO P ops Q t S n (f + 1) listed e w := ⟨fun a ha => by
 refine ⟨fun h0 => (by rw [hr] at h0; cases h0), fun j hj => ?_⟩
 rw [hr] at hj
 obtain rfl : j = i := by simpa using hj
 unfold wpOp
 simp only [ho, hw n a ha, if_true]
 refine .inl ((hy _ ha.eval).wp fun v w' hR => ?_)
 rw [hd]
 obtain ⟨h1, h2⟩ := k v w' hR
 exact ⟨h1, h2.run _ (ha.ins hn v)⟩⟩
theorem D0 {o : Oper} {fn : FuncId} {args : Array Value} {R : Ending → World → Prop} (i : Nat) (d : Option Tmp) (hr : Region.ready .any ops listed = [i]) (ho : ops[i]? = some o) (hw : Wn ops e o) (hd : o.dst = d) (hn : MZ n d = true) (hy : YC P e o w fn args) (hc : Calls P fn args w R)
 (k : ∀ x w', R x w' → ∃ v, x = .returned v ∧ (i < t → S w') ∧ SxO P ops Q t S n f (listed.setIfInBounds i true) (e.ins d v) w') : SxO P ops Q t S n (f + 1) listed e w := ⟨fun a ha => by
 refine ⟨fun h0 => (by rw [hr] at h0; cases h0), fun j hj => ?_⟩
 rw [hr] at hj
 obtain rfl : j = i := by simpa using hj
 unfold wpOp
 simp only [ho, hw n a ha, if_true]
 refine .inl ?_
 unfold Oper.wp
 rw [hy _ ha.eval, Oper.upon_enter]
 refine hc.mono fun x w' hR => ?_
 obtain ⟨v, rfl, h1, h2⟩ := k x w' hR
 simp only [hd]
 exact ⟨h1, h2.run _ (ha.ins hn v)⟩⟩
theorem FU {rs : List Nat} (hr : Region.ready .any ops listed = rs) (hne : rs ≠ [])
 (k : ∀ i ∈ rs, ∀ a, Agr n e a → wpOp P ops Q i (fun a' w' => (i < t → S w') ∧ I3 P ops Q t S f (listed.setIfInBounds i true) a' w') a w) : SxO P ops Q t S n (f + 1) listed e w := ⟨fun a ha =>
 ⟨fun h0 => absurd (hr ▸ h0) hne, fun i hi => k i (hr ▸ hi) a ha⟩⟩
theorem JK {o : Oper} {fn : FuncId} {args : Array Value} {R : Ending → World → Prop} {i : Nat} (d : Option Tmp) (ho : ops[i]? = some o) (hw : Wn ops e o) (hd : o.dst = d) (hn : MZ n d = true) (hy : YC P e o w fn args) (hc : Calls P fn args w R)
 (k : ∀ x w', R x w' → ∃ v, x = .returned v ∧ (i < t → S w') ∧ SxO P ops Q t S n f (listed.setIfInBounds i true) (e.ins d v) w') : ∀ a, Agr n e a → wpOp P ops Q i (fun a' w' => (i < t → S w') ∧ I3 P ops Q t S f (listed.setIfInBounds i true) a' w') a w := fun a ha => by
 unfold wpOp
 simp only [ho, hw n a ha, if_true]
 refine .inl ?_
 unfold Oper.wp
 rw [hy _ ha.eval, Oper.upon_enter]
 refine hc.mono fun x w' hR => ?_
 obtain ⟨v, rfl, h1, h2⟩ := k x w' hR
 simp only [hd]
 exact ⟨h1, h2.run _ (ha.ins hn v)⟩
theorem E0 {o : Oper} {R : Value → World → Prop} {i : Nat} (d : Option Tmp) (ho : ops[i]? = some o) (hw : Wn ops e o) (hd : o.dst = d) (hn : MZ n d = true) (hy : ∀ ρ, Ag e ρ → G8 P ρ o w R)
 (k : ∀ v w', R v w' → (i < t → S w') ∧ SxO P ops Q t S n f (listed.setIfInBounds i true) (e.ins d v) w') : ∀ a, Agr n e a → wpOp P ops Q i (fun a' w' => (i < t → S w') ∧ I3 P ops Q t S f (listed.setIfInBounds i true) a' w') a w := fun a ha => by
 unfold wpOp
 simp only [ho, hw n a ha, if_true]
 refine .inl ((hy _ ha.eval).wp fun v w' hR => ?_)
 rw [hd]
 obtain ⟨h1, h2⟩ := k v w' hR
 exact ⟨h1, h2.run _ (ha.ins hn v)⟩
theorem BJ (hr : Region.ready .any ops listed = []) (k : QX Q .normal n e w) : SxO P ops Q t S n f listed e w := ⟨fun a ha => by
 cases f with
 | zero => exact ⟨hr, k.run a ha⟩
 | succ f => exact ⟨fun _ => k.run a ha, by rw [hr]; simp⟩⟩
def f8 (listed : Array Bool) (t : Nat) : Bool := (List.range t).all fun i => listed.getD i true
theorem MA {l : List Oper} (j : Nat) (hl : f8 listed t = true) (hf : l.length = f) (hj : ops.toList.drop j = l) (hB : Region.seqB .any ops l.length j listed = true) (k : SxL P ops Q n l e w) : SxO P ops Q t S n f listed e w := ⟨fun a ha => by
 subst hf
 refine KU _ _ _ _ (fun i hi => List.all_eq_true.1 hl i (List.mem_range.2 hi)) (wpAny_of_seq (md := .any) l j listed a w (fun k => ?_) hB (k.run a ha))
 rw [← hj, List.getElem?_drop]; simp⟩
end
end
section
def evp (e : Env) : List (Nat × Operand) → Option (List (Nat × Value))
 | [] => some []
 | (i, x) :: xs => match ev e x, evp e xs with
  | some v, some vs => some ((i, v) :: vs)
  | _, _ => none
theorem Ag.parts {e : Env} {ρ : Operand → Value} (h : Ag e ρ) : ∀ {xs : List (Nat × Operand)} {vs : List (Nat × Value)}, evp e xs = some vs → xs.map (fun (i, x) => (i, ρ x)) = vs
 | [], vs, hx => by simp [evp] at hx; simp [hx]
 | (i, x) :: xs, vs, hx => by
  unfold evp at hx
  cases h1 : ev e x with
  | none => simp [h1] at hx
  | some v =>
   cases h2 : evp e xs with
   | none => simp [h1, h2] at hx
   | some us =>
    simp only [h1, h2, Option.some.injEq] at hx
    subst hx
    rw [List.map_cons, h.parts h2]
    show (i, ρ x) :: us = _
    rw [h x v h1]
theorem ZW (cs xs : List Value) (off i : Nat) (h : off ≤ cs.length) : (put cs off xs)[i]? = if i < off then cs[i]? else if i < off + xs.length then xs[i - off]? else cs[i]? := by
 unfold put
 have hl : (cs.take off).length = off := by simp; omega
 by_cases h1 : i < off
 ·rw [if_pos h1, List.getElem?_append_left (by omega), List.getElem?_take_of_lt h1]
 ·rw [if_neg h1, List.getElem?_append_right (by omega), hl]
  by_cases h2 : i < off + xs.length
  ·rw [if_pos h2, List.getElem?_append_left (by omega)]
  ·rw [if_neg h2, List.getElem?_append_right (by omega), List.getElem?_drop]
   congr 1; omega
theorem i6 (cs vs : List Value) (k : Nat) (v : Value) (h : k + 1 + vs.length ≤ cs.length) : put (cs.set k v) (k + 1) vs = put cs k (v :: vs) := by
 apply List.ext_getElem?
 intro i
 rw [ZW _ _ _ _ (by rw [List.length_set]; omega), ZW _ _ _ _ (by omega), List.length_cons]
 by_cases h1 : i < k
 ·rw [if_pos (by omega), if_pos h1, List.getElem?_set_ne (by omega)]
 ·by_cases h2 : i = k
  ·subst h2
   rw [if_pos (by omega), if_neg h1, if_pos (by omega), List.getElem?_set_self (by omega), Nat.sub_self]; rfl
  ·rw [if_neg (by omega), if_neg h1]
   by_cases h3 : i < k + 1 + vs.length
   ·rw [if_pos h3, if_pos (by omega), show i - k = (i - (k + 1)) + 1 by omega, List.getElem?_cons_succ]
   ·rw [if_neg h3, if_neg (by omega), List.getElem?_set_ne (by omega)]
theorem T5 (off : Nat) : ∀ (vs : List Value) (j : Nat) (cells : List Value), off + j + vs.length ≤ cells.length →
 (vs.zipIdx j).foldl (fun (cs : Array Value) (p : Value × Nat) => cs.setIfInBounds (off + p.2) p.1) cells.toArray = (put cells (off + j) vs).toArray
 | [], j, cells, _ => by simp [n9]
 | v :: vs, j, cells, h => by
  simp only [List.length_cons] at h
  rw [List.zipIdx_cons, List.foldl_cons, List.setIfInBounds_toArray, T5 off vs (j + 1) _ (by rw [List.length_set]; omega)]
  rw [show off + (j + 1) = off + j + 1 by omega, i6 _ _ _ _ (by omega)]
theorem TD (place : Nat → Option (Nat × Nat)) (cells : List Value) (i off : Nat) (v : Value) (vs : List Value) (rest : List (Nat × Value)) (hv : v.cells = vs.toArray) (hp : place i = some (off, vs.length)) (hl : off + vs.length ≤ cells.length) :
 Instr.fill place cells.toArray ((i, v) :: rest) = Instr.fill place (put cells off vs).toArray rest := by
 have hf := T5 off vs 0 cells (by omega)
 conv => lhs; unfold Instr.fill
 rw [hp]
 simp only [hv, List.size_toArray, ne_eq, not_true_eq_false, decide_false, Bool.false_or, decide_eq_true_eq]
 rw [if_neg (by omega)]
 rw [← Array.foldl_toList, Array.toList_zipIdx]
 simp only [Nat.add_zero] at hf
 rw [hf]
theorem R8 (size : Nat) : ∀ (vs : List Value) (j : Nat) (pre rest : List Value), pre.length = j * size → rest.length = vs.length * size → (∀ v ∈ vs, v.cells.size = size) →
 Instr.fill (fun i => some (i * size, size)) (pre ++ rest).toArray ((vs.zipIdx j).map fun x => (x.2, x.1)) = some (pre ++ (vs.map fun v => v.cells.toList).flatten).toArray
 | [], j, pre, rest, _, hr, _ => by
  have : rest = [] := List.eq_nil_of_length_eq_zero (by simpa using hr)
  subst this
  simp [Instr.fill]
 | v :: vs, j, pre, rest, hp, hr, hv => by
  have hvs : v.cells.toList.length = size := by simpa using hv v (by simp)
  simp only [List.length_cons, Nat.add_mul, Nat.one_mul] at hr
  rw [List.zipIdx_cons, List.map_cons]
  rw [TD _ _ j (j * size) v v.cells.toList _ (by simp) (by rw [hvs]) (by rw [List.length_append, hvs]; omega)]
  have e : put (pre ++ rest) (j * size) v.cells.toList = (pre ++ v.cells.toList) ++ rest.drop size := by
   unfold put
   rw [← hp, List.take_left, hvs, List.drop_append, List.drop_of_length_le (by omega), List.nil_append, List.append_assoc]
   congr 3; omega
  rw [e, R8 size vs (j + 1) _ _ (by rw [List.length_append, hvs, hp, Nat.add_mul]; omega) (by rw [List.length_drop]; omega) (fun u hu => hv u (by simp [hu]))]
  simp
section
variable {P : Program} {e : Env} {w : World} {o : Oper}
theorem BO {t : Nat} {parts : List (Nat × Operand)} {ps : List (Nat × Value)} {cells : Array Value} (ho : o.op = .build t parts.toArray) (hp : evp e parts = some ps) (hb : P.built t ps = some cells) : Y P e o w (.agg cells) := fun ρ h => by
 have := h.parts hp
 unfold execOp
 simp only [ho, Sem.run_bind]
 have hm : (parts.toArray.map fun (i, x) => (i, ρ x)) = ps.toArray := by simp [this]
 rw [hm, run_build w t ps.toArray cells (by simpa using hb)]
 rfl
theorem AN {t b off n : Nat} {x : Operand} {d : TypeDesc} {xs : List Value} (ho : o.op = .load t x) (hx : ev e x = some (.pointer (some ⟨b, off, none⟩))) (hr : Rd w (some ⟨b, off, none⟩) n xs) (hu : P.underlying t = some d) (hd : d.isRow = true) (hi : (P.info? t).map (·.size) = some n) : Y P e o w (.agg xs.toArray) := fun _ h =>
 WT t x ho b off n xs d (h _ _ hx) hr hu hd hi
theorem E1 {ρ : Operand → Value} {t el size len : Nat} {parts : List (Nat × Operand)} {ps : List (Nat × Value)} (vs : List Value) (z : Value) (hρ : Ag e ρ) (ho : o.op = .buildSlice t len parts.toArray) (hp : evp e parts = some ps) (hps : ps = (vs.zipIdx 0).map fun x => (x.2, x.1)) (hlen : vs.length = len)
 (hu : P.underlying t = some (.slice el)) (hi : (P.info? el).map (fun i => (i.zero, i.size)) = some (some z, size)) (hpos : 0 < len * size) (hsm : len * size ≤ 16777216) (hv : ∀ v ∈ vs, v.cells.size = size) :
 G8 P ρ o w fun v w' => ∃ g, v = .slice (some ⟨g, 0, none⟩) len len ∧ w.heap.size ≤ g ∧ g < w'.heap.size ∧ Blk w' g el ((vs.map fun v => v.cells.toList).flatten) ∧ Fr0 w w' := by
 cases hq : P.info? el with
 | none => simp [hq] at hi
 | some i =>
  obtain ⟨hz, hsize⟩ : i.zero = some z ∧ i.size = size := by simpa [hq] using hi
  subst hsize
  have hm : (parts.toArray.map fun (i, x) => (i, ρ x)) = ps.toArray := by simp [hρ.parts hp]
  have hfill := R8 i.size vs 0 [] ((Array.range (len * i.size)).map (z.cells[· % z.cells.size]!)).toList (by simp) (by simp [hlen]) hv
  simp only [List.nil_append] at hfill
  rw [Array.toArray_toList] at hfill
  refine ⟨_, w.alloc (.cells ((vs.map fun v => v.cells.toList).flatten).toArray el), .inl ?_, w.heap.size, rfl, Nat.le_refl _, by simp, Blk.new w el _, Fr.refl.alloc _⟩
  have hr := run_buildSlice (P := P) w t el len ps.toArray _ i z hu hq hz (by simp; omega) (by omega) (by rw [hps]; exact hfill)
  unfold execOp
  simp only [ho, Sem.run_bind, hm, hr, Result.andThen_ok]
  rfl
end
end
section
section
variable {P : Program} {G : Nat} {o : Oper} {e : Tb Value} {h h' : Hp} {nx nx' : Nat} {v : Value}
theorem VRs.put {σ : Sg} {cs us xs ys : List Value} (off : Nat) (hc : VRs σ cs us) (hx : VRs σ xs ys) : VRs σ (Go.Proofs.YtadgfojhjnkliaaGreatDoor.put cs off xs) (Go.Proofs.YtadgfojhjnkliaaGreatDoor.put us off ys) := by
 unfold Go.Proofs.YtadgfojhjnkliaaGreatDoor.put
 rw [hx.len]
 exact (hc.take off).append (hx.append (hc.drop (off + ys.length)))
theorem MV {σ : Sg} {place : Nat → Option (Nat × Nat)} : ∀ {ps qs : List (Nat × Value)} {cs cs' us : List Value}, R9 place cs ps = some cs' → VRs σ cs us → ps.map (·.1) = qs.map (·.1) → VRs σ (ps.map (·.2)) (qs.map (·.2)) →
 ∃ us', Instr.fill place us.toArray qs = some us'.toArray ∧ VRs σ cs' us'
 | [], qs, cs, cs', us, hf, hc, h1, h2 => by
  injection hf with hf; subst hf
  obtain rfl : qs = [] := by cases qs <;> simp_all
  exact ⟨us, rfl, hc⟩
 | (i, v) :: ps, [], cs, cs', us, hf, hc, h1, h2 => by cases h1
 | (i, v) :: ps, (j, u) :: qs, cs, cs', us, hf, hc, h1, h2 => by
  simp only [List.map_cons, List.cons.injEq] at h1 h2
  obtain ⟨rfl, h1⟩ := h1
  obtain ⟨y, vs', h3, h4, h5⟩ := h2.inv
  injection h3 with h3 h6; subst h3; subst h6
  unfold R9 at hf
  split at hf
  ·cases hf
  ·rename_i off size hp
   obtain ⟨hb, hf⟩ := BE hf (by simp)
   simp only [Bool.and_eq_true] at hb
   have hsz := Nat.eq_of_beq_eq_true hb.1
   have hle := Nat.le_of_ble_eq_true hb.2
   have hcl := h4.cells.len
   rw [TD place us i off u u.cells.toList qs (by simp) (by rw [hp, ← hsz, hcl]) (by rw [← hcl, ← hc.len]; exact hle)]
   exact MV hf (hc.put off h4.cells) h1 h5
theorem QF : ∀ {fs : List Field} {pl : List (Nat × Nat)}, PD P fs = some pl → fs.mapM (fun f => (P.info? f.type).map fun i => (f.offset, i.size)) = some pl
 | [], pl, hp => by injection hp with hp; subst hp; rfl
 | f :: r, pl, hp => by
  unfold PD at hp
  split at hp
  ·rename_i i l hi hl
   injection hp with hp; subst hp
   simp [List.mapM_cons, hi, QF hl]
  ·cases hp
theorem QG {ρ : Operand → Value} {ps : Array (Nat × Operand)} : (ps.map fun (i, x) => (i, ρ x)).toList = ps.toList.map fun p => (p.1, ρ p.2) := by simp
theorem Z3 {t : TypeId} {ps : Array (Nat × Operand)} (ho : o.op = .build t ps) (hm : NS P h nx t (evP G e ps.toList) = .ok v h' nx') : Good P G o e h nx v h' nx' := by
 unfold NS at hm
 split at hm
 ·rename_i qs hq
  have key : ∀ z cs (place : Nat → Option (Nat × Nat)), GG P t = some z → R9 place z.cells.toList qs = some cs → (∀ ws, Instr.fill place z.cells ws = P.built t ws) → .ok (.agg ⟨cs⟩) h nx = OR.ok v h' nx' → Good P G o e h nx v h' nx' := by
   intro z cs place hz hf hb hm
   obtain ⟨rfl, rfl, rfl⟩ := BF hm
   refine BC fun σ w ρ oe m => ?_
   obtain ⟨h1, h2⟩ := oe.parts hq
   obtain ⟨i, hi, hiz, hfl⟩ := CP hz
   have e1 : (ps.toList.map fun p => (p.1, ρ p.2)).map (·.1) = ps.toList.map (·.1) := by rw [List.map_map]; rfl
   have e2 : (ps.toList.map fun p => (p.1, ρ p.2)).map (·.2) = ps.toList.map fun p => ρ p.2 := by rw [List.map_map]; rfl
   obtain ⟨us', h3, h4⟩ := MV (σ := σ) (qs := ps.toList.map fun p => (p.1, ρ p.2)) hf ((VR.of_flat (σ := σ) hfl).cells) (by rw [e1]; exact h1) (by rw [e2]; exact h2)
   refine ⟨.agg ⟨us'⟩, .agg h4 .nil, ?_⟩
   have hz2 : z.cells.toList.toArray = z.cells := by simp
   rw [hz2, hb] at h3
   have hr := run_build (P := P) w t (ps.map fun (i, x) => (i, ρ x)) us'.toArray (by rw [QG]; exact h3)
   unfold execOp
   simp only [ho, Sem.run_bind, hr, Result.andThen_ok]
   rfl
  split at hm
  ·rename_i z fs hz hu
   split at hm
   ·rename_i pl hp
    split at hm
    ·rename_i cs hf
     obtain ⟨i, hi, hiz, _⟩ := CP hz
     refine key z cs _ hz hf (fun ws => ?_) hm
     unfold Program.built
     simp only [hi, hu, hiz, QF hp]
     congr 1; funext j; simp
    ·cases hm
   ·cases hm
  ·rename_i z n el hz hu
   split at hm
   ·rename_i s hs
    split at hm
    ·rename_i cs hf
     obtain ⟨i, hi, hiz, _⟩ := CP hz
     obtain ⟨j, hj, hjs⟩ := K1 hs
     subst hjs
     refine key z cs _ hz hf (fun ws => ?_) hm
     unfold Program.built
     simp only [hi, hu, hiz, hj]
    ·cases hm
   ·cases hm
  ·cases hm
 ·cases hm
theorem FG (l : List Value) (n : Nat) : DP l (n + 1) = l ++ DP l n := rfl
theorem GN (l : List Value) : ∀ n, (DP l n).length = n * l.length
 | 0 => by rw [Nat.zero_mul]; rfl
 | n + 1 => by rw [FG, List.length_append, GN l n, Nat.add_mul]; omega
theorem PQ (l : List Value) (hl : 0 < l.length) : ∀ (n i : Nat), i < n * l.length → (DP l n)[i]? = l[i % l.length]?
 | 0, i, hi => by omega
 | n + 1, i, hi => by
  rw [FG]
  rw [Nat.add_mul] at hi
  by_cases h1 : i < l.length
  ·rw [List.getElem?_append_left h1, Nat.mod_eq_of_lt h1]
  ·rw [List.getElem?_append_right (by omega), PQ l hl n _ (by omega)]
   congr 1
   rw [← Nat.sub_add_cancel (Nat.le_of_not_lt h1), Nat.add_mod_right, Nat.add_sub_cancel]
theorem MM (z : Array Value) (n : Nat) (hz : 0 < z.size) : (Array.range (n * z.size)).map (z[· % z.size]!) = (DP z.toList n).toArray := by
 apply Array.ext_getElem?
 intro i
 have hl : 0 < z.toList.length := by simpa using hz
 by_cases hi : i < n * z.size
 ·have hm : i % z.size < z.size := Nat.mod_lt _ hz
  have e1 : (DP z.toList n).toArray[i]? = (DP z.toList n)[i]? := by simp
  rw [e1, PQ z.toList hl n i (by simpa using hi)]
  simp [hi, hm]
 ·have e1 : (DP z.toList n).toArray[i]? = (DP z.toList n)[i]? := by simp
  rw [Array.getElem?_eq_none (by simp; omega), e1, List.getElem?_eq_none (by rw [GN]; simp; omega)]
theorem VRs.zeros {σ : Sg} {l us : List Value} (hv : VRs σ l us) : ∀ n, VRs σ (DP l n) (DP us n)
 | 0 => .nil
 | n + 1 => by rw [FG, FG]; exact hv.append (hv.zeros n)
theorem P9 {t : TypeId} {len : Nat} {ps : Array (Nat × Operand)} (ho : o.op = .buildSlice t len ps) (hm : FN P h nx t len (evP G e ps.toList) = .ok v h' nx') : Good P G o e h nx v h' nx' := by
 unfold FN at hm
 split at hm
 ·rename_i qs hq
  split at hm
  ·rename_i el s ht
   split at hm
   ·rename_i z hz
    obtain ⟨hc, hm⟩ := BE hm (by simp)
    simp only [Bool.and_eq_true] at hc
    have hzs := Nat.eq_of_beq_eq_true hc.1
    have hpos := AZ hc.2.1
    have hsm := Nat.le_of_ble_eq_true hc.2.2
    split at hm
    ·rename_i cs hf
     obtain ⟨rfl, rfl, rfl⟩ := E4 hm
     obtain ⟨hu, ie, hie, hies⟩ := JH ht
     obtain ⟨i, hi, hiz, hfl⟩ := CP hz
     rw [hie] at hi; injection hi with hi; subst hi
     subst hies
     intro σ w ρ oe m
     obtain ⟨h1, h2⟩ := oe.parts hq
     have e1 : (ps.toList.map fun p => (p.1, ρ p.2)).map (·.1) = ps.toList.map (·.1) := by rw [List.map_map]; rfl
     have e2 : (ps.toList.map fun p => (p.1, ρ p.2)).map (·.2) = ps.toList.map fun p => ρ p.2 := by rw [List.map_map]; rfl
     obtain ⟨us', h3, h4⟩ := MV (σ := σ) (qs := ps.toList.map fun p => (p.1, ρ p.2)) hf (((VR.of_flat (σ := σ) hfl).cells).zeros len) (by rw [e1]; exact h1) (by rw [e2]; exact h2)
     obtain ⟨σ', h5, h6, h7⟩ := m.newRow el (Tb.of cs) h4 (fun i => Tb.get_of _ i)
     have hzs' : z.cells.size = ie.size := by simpa using hzs
     by_cases h0 : len = 0
     ·subst h0
      refine ⟨.slice (some ⟨w.heap.size, 0, none⟩) 0 0, _, .inl ?_, σ', .sl (L := ⟨w.heap.size, 0, _⟩) h5 .nil, h7⟩
      have e3 : Instr.fill (fun i => some (i * ie.size, ie.size)) #[] (ps.toList.map fun p => (p.1, ρ p.2)) = some us'.toArray := h3
      unfold execOp
      simp only [ho, Instr.buildSlice, Sem.run_bind, run_underlying hu, Result.andThen_ok, sizeOf, typeInfo]
      simp [hie, e3, newRow, show Array.range 0 = #[] from rfl]
     ·have hr := run_buildSlice (P := P) w t el len (ps.map fun (i, x) => (i, ρ x)) us'.toArray ie z hu hie hiz (by omega) (Nat.ne_of_gt (Nat.mul_pos (Nat.pos_of_ne_zero h0) hpos)) (by
       rw [QG, ← hzs', MM _ _ (by omega), hzs']; exact h3)
      refine ⟨.slice (some ⟨w.heap.size, 0, none⟩) len len, _, .inl ?_, σ', .sl (L := ⟨w.heap.size, 0, _⟩) h5 .nil, h7⟩
      unfold execOp
      simp only [ho, Sem.run_bind, hr, Result.andThen_ok]
      rfl
    ·cases hm
   ·cases hm
  ·cases hm
 ·cases hm
theorem QL {t : TypeId} {l c : Operand} (ho : o.op = .makeSlice t l c) (hm : GK P h nx t (evO G e l) (evO G e c) = .ok v h' nx') : Good P G o e h nx v h' nx' := by
 unfold GK at hm
 split at hm
 ·rename_i n k h1 h2
  split at hm
  ·rename_i el s ht
   split at hm
   ·rename_i z i hz hi
    obtain ⟨hc, hm⟩ := BE hm (by simp)
    simp only [Bool.and_eq_true] at hc
    have hzs := Nat.eq_of_beq_eq_true hc.1
    have hpos := AZ hc.2.1
    have hnk := Nat.le_of_ble_eq_true hc.2.2.1
    have hsm := Nat.le_of_ble_eq_true hc.2.2.2.1
    have hby := Nat.le_of_ble_eq_true hc.2.2.2.2
    obtain ⟨rfl, rfl, rfl⟩ := E4 hm
    obtain ⟨hu, ie, hie, hies⟩ := JH ht
    rw [hi] at hie; injection hie with hie; subst hie
    subst hies
    obtain ⟨i', hi', hiz, hfl⟩ := CP hz
    rw [hi] at hi'; injection hi' with hi'; subst hi'
    intro σ w ρ oe m
    have hzs' : z.cells.size = i.size := by simpa using hzs
    have hlen : (DP z.cells.toList k).length = k * i.size := by rw [GN]; simp [hzs']
    obtain ⟨σ', h5, h6, h7⟩ := m.newRow el (match z.cells.toList with | [v] => Tb.repN v k k | l => Tb.of (DP l k)) (((VR.of_flat (σ := σ) hfl).cells).zeros k) (fun j => by
     split
     ·rename_i x hx
      rw [Tb.get_repN, hx]
      have : ∀ n, DP [x] n = List.replicate n x := fun n => by
       induction n with
       | zero => rfl
       | succ n ih => rw [FG, ih]; rfl
      rw [this]
     ·rw [Tb.get_of])
    rw [hlen] at h7
    have hbytes : (i.bytes : Int) * (k : Int) ≤ 281474976710656 := by
     have : i.bytes * k ≤ 16777216 * 16777216 := Nat.mul_le_mul hby hsm
     have h9 : ((i.bytes * k : Nat) : Int) ≤ ((16777216 * 16777216 : Nat) : Int) := Int.ofNat_le.2 this
     simpa using h9
    have hrun := run_make (P := P) w t el i z hu hi hiz .i64 .i64 (n : Int) (k : Int) (by omega) (by omega) hbytes (by omega)
    have hmade : madeCells z.cells ((k : Int).toNat * i.size) = (DP z.cells.toList k).toArray := by
     rw [← hzs']; exact MM z.cells k (by omega)
    rw [hmade] at hrun
    refine ⟨.slice (some ⟨w.heap.size, 0, none⟩) n k, _, .inl ?_, σ', .sl (L := ⟨w.heap.size, 0, _⟩) h5 .nil, h7⟩
    have hl := (oe l _ h1).scal_inv rfl
    have hcc := (oe c _ h2).scal_inv rfl
    unfold execOp
    simp only [ho, hl, hcc, Sem.run_bind]
    have e1 : Int.ofNat n = (n : Int) := rfl
    have e2 : Int.ofNat k = (k : Int) := rfl
    rw [e1, e2, hrun]
    rfl
   ·cases hm
  ·cases hm
 ·cases hm
end
end
section
section
variable {P : Program} {G : Nat} {o : Oper} {e : Tb Value} {h h' : Hp} {nx nx' : Nat} {v : Value}
theorem oY {α : Type} {a : Array α} {x y : α} (h : a.toList = [x, y]) : a = #[x, y] := by apply Array.ext'; simpa using h
theorem oZ {α : Type} {a : Array α} {x : α} (h : a.toList = [x]) : a = #[x] := by apply Array.ext'; simpa using h
theorem bG : ∀ {l : List Value} {bs : List UInt8}, oS l = some bs → ∃ ns : List Nat, l = ns.map (fun n => Value.int .u8 (.ofNat n)) ∧ bs = ns.map UInt8.ofNat
 | [], bs, hb => by injection hb with hb; subst hb; exact ⟨[], rfl, rfl⟩
 | x :: l, bs, hb => by
  unfold oS at hb
  split at hb
  ·rename_i hnil; cases hnil
  ·rename_i n r heq
   injection heq with h1 h2; subst h1; subst h2
   split at hb
   ·rename_i l' hl
    injection hb with hb; subst hb
    obtain ⟨ns, h3, h4⟩ := bG hl
    exact ⟨n :: ns, by rw [h3]; rfl, by rw [h4]; rfl⟩
   ·cases hb
  ·cases hb
theorem VP {σ : Sg} : ∀ {l us : List Value}, (∀ x ∈ l, cU x = true) → VRs σ l us → us = l
 | [], us, _, hv => hv.inv_nil
 | x :: l, us, hs, hv => by
  obtain ⟨y, vs', rfl, h1, h2⟩ := hv.inv
  rw [h1.scal_inv (hs x (by simp)), VP (fun x hx => hs x (by simp [hx])) h2]
theorem R6 : ∀ (ns : List Nat) (r : ByteArray), (ns.map (Int.ofNat)).foldl (fun r n => r.push (UInt8.ofNat n.toNat)) r = ⟨⟨r.data.toList ++ ns.map UInt8.ofNat⟩⟩
 | [], r => by obtain ⟨⟨d⟩⟩ := r; simp
 | n :: ns, r => by
  rw [List.map_cons, List.foldl_cons, R6 ns]
  obtain ⟨⟨d⟩⟩ := r
  simp
theorem eT {s d : TypeId} {x : Operand} (ho : o.op = .convert s d x) (hm : KA P G e h nx o s d (evO G e x) = .ok v h' nx') : Good P G o e h nx v h' nx' := by
 have hsel : ∀ cs b, o.op ≠ .select cs b := fun cs b hh => by rw [ho] at hh; cases hh
 unfold KA at hm
 split at hm
 ·rename_i k n h1
  split at hm
  ·rename_i k' hd
   split at hm
   ·rename_i ds hs
    obtain ⟨rfl, rfl, rfl⟩ := BF hm
    refine BC fun σ w ρ oe m => ⟨_, VR.int, ?_⟩
    have hx := (oe x _ h1).scal_inv rfl
    unfold execOp
    simp [ho, hx, convert, run_underlying hs, run_underlying hd, Conv.intToInt, ZF]
   ·cases hm
  ·exact ED hsel hm
 ·rename_i b h1
  split at hm
  ·rename_i el hs hd
   split at hm
   ·rename_i hel
    obtain ⟨rfl, rfl, rfl⟩ := E4 hm
    intro σ w ρ oe m
    have hx := (oe x _ h1).scal_inv rfl
    have hrun := Lib.run_convert_string_bytes (P := P) w s d el b hs hd hel
    have hsz : b.size = b.data.toList.length := by obtain ⟨dd⟩ := b; rfl
    have hge := grownCap_ge w b.size 0 el
    have hcs : (Lib.bytesCells w el b).size = grownCap w b.size 0 el := by
     unfold Lib.bytesCells
     rw [Array.size_append, Array.size_map, Array.size_replicate]
     have : b.data.size = b.size := by obtain ⟨dd⟩ := b; rfl
     omega
    obtain ⟨σ', h5, h6, h7⟩ := m.newRowIn (w' := Lib.bytesWorld w el b) (cs := b.data.toList.map fun x => Value.int .u8 (.ofNat x.toNat)) (us := b.data.toList.map fun x => Value.int .u8 (.ofNat x.toNat)) el (Tb.of (b.data.toList.map fun x => Value.int .u8 (.ofNat x.toNat)))
     (VRs.of_get rfl fun i x hx => ⟨x, hx, by
      obtain ⟨y, _, rfl⟩ := List.mem_map.1 (List.mem_of_getElem? hx)
      exact VR.int⟩) (fun i => Tb.get_of _ i) (Lib.bytesWorld_at_new w el b) (fun i u hu => by
      have hi := (List.getElem?_eq_some_iff.1 hu).1
      rw [List.length_map] at hi
      unfold Lib.bytesCells
      rw [Array.getElem?_append_left (by rw [Array.size_map]; simpa using hi)]
      rw [List.getElem?_map] at hu
      simpa using hu) (by rw [List.length_map, hcs, ← hsz]; exact hge) (.inr (Nat.le_refl _)) ⟨rfl, rfl, rfl⟩ (Lib.bytesWorld_size w el b) (fun r hr => Lib.bytesWorld_at_old w el b r hr)
    rw [hcs] at h5
    rw [List.length_map] at h7
    refine ⟨.slice (some ⟨w.heap.size, 0, none⟩) b.size (grownCap w b.size 0 el), _, .inl ?_, σ', ?_, h7⟩
    ·unfold execOp
     simp only [ho, hx, Sem.run_bind, hrun, Result.andThen_ok]
     rfl
    ·rw [← hsz]
     exact .slo (L := ⟨w.heap.size, 0, grownCap w b.size 0 el⟩) h5 hge (by simp) .nil
   ·cases hm
  ·exact ED hsel hm
 ·rename_i h1
  split at hm
  ·rename_i el sz hs hd
   split at hm
   ·rename_i hel
    obtain ⟨rfl, rfl, rfl⟩ := BF hm
    obtain ⟨hu, _⟩ := JH hs
    refine BC fun σ w ρ oe m => ⟨_, VR.str, ?_⟩
    have hx := (oe x _ h1).scal_inv rfl
    unfold execOp
    simp [ho, hx, convert, run_underlying hu, run_underlying hd, run_underlying hel, Conv.bytesToString]
    rfl
   ·cases hm
  ·cases hm
 ·rename_i id off sp len cap h1
  split at hm
  ·rename_i hsd
   split at hm
   ·rename_i el sz bel n k c hs hb
    split at hm
    ·rename_i hel
     obtain ⟨hk, hm⟩ := BE hm (by simp)
     have hk := Nat.eq_of_beq_eq_true hk
     subst hk
     obtain ⟨rfl, rfl, rfl⟩ := BF hm
     have hsd := Nat.eq_of_beq_eq_true hsd
     subst hsd
     obtain ⟨hu, _⟩ := JH hs
     intro σ w ρ oe m
     obtain ⟨L, A, c', hL, hx, _⟩ := (oe x _ h1).slice_any
     obtain ⟨row, fz, r1, r2, r3, r4, r5, r6, r7⟩ := m.cells hb hL
     have hsh : w.shape? L.blk = some (bel, row.size) := by unfold World.shape?; rw [r1]
     have hrun : (convert s s (ρ x)).run P w = .ok (ρ x) (w.freeze ⟨L.blk, row.size, none⟩ 1) := by
      rw [hx]
      simp [convert, run_underlying hu, run_underlying hel, markStringish, hsh, Result.andThen]
     have hfb : (w.freeze ⟨L.blk, row.size, none⟩ 1).heap[L.blk]? = some (.cells row bel (if fz.1 == fz.2 then (row.size, row.size + 1) else (min fz.1 row.size, max fz.2 (row.size + 1)))) := by
      obtain ⟨lo, hi⟩ := fz
      simp [World.freeze, Array.getElem?_modify, r1]
     refine ⟨ρ x, w.freeze ⟨L.blk, row.size, none⟩ 1, .inl ?_, σ, oe x _ h1, ?_⟩
     ·unfold execOp
      simp only [ho, Sem.run_bind, hrun, Result.andThen_ok]
      rfl
     ·have ht := m.upd (B' := .cells bel n 0 c) (w' := w.freeze ⟨L.blk, row.size, none⟩ 1) hb hL ⟨row, _, hfb, r2, r3, r4, r5, fun _ => by
       cases hq : (fz.1 == fz.2) with
       | true => right; simp [r2]
       | false =>
        right
        have := r7 (by simp)
        rcases this with h9 | h9
        ·rw [h9] at hq; simp at hq
        ·simp; omega⟩ ⟨rfl, rfl, rfl⟩ (by simp [World.freeze]) (fun r hr => by
         simp [World.freeze, Array.getElem?_modify, Ne.symm hr])
      have hfun : (fun i => if i = id then some (Bl.cells bel n 0 c) else h.get i) = h.get := by
       funext i
       by_cases e : i = id
       ·subst e; rw [if_pos rfl, hb]
       ·rw [if_neg e]
      rw [hfun] at ht
      exact ht
    ·cases hm
   ·cases hm
  ·split at hm
   case h_2 => cases hm
   rename_i el sz bel n k c hs hd hb
   split at hm
   ·rename_i l hel hl
    split at hm
    ·rename_i bs hbs
     obtain ⟨rfl, rfl, rfl⟩ := BF hm
     obtain ⟨hu, _⟩ := JH hs
     refine BC fun σ w ρ oe m => ⟨_, VR.str, ?_⟩
     obtain ⟨L, A, c', hL, hx, hA⟩ := (oe x _ h1).slice_any
     obtain ⟨us, h2, h3, h4⟩ := m.ldN hb hL len off hl
     have h4 : w.rangeAt L.blk A us := by
      rcases hA with rfl | rfl
      ·exact h4
      ·obtain rfl : us = [] := List.eq_nil_of_length_eq_zero h3
       intro j u hu; simp at hu
     obtain ⟨ns, rfl, rfl⟩ := bG hbs
     have hus := VP (fun x hx => by obtain ⟨y, _, rfl⟩ := List.mem_map.1 hx; rfl) h2
     subst hus
     have hload := G2 (P := P) h4
     rw [h3] at hload
     have hrun := run_bytesToString (P := P) w ⟨L.blk, A, none⟩ len c' (ns.map Int.ofNat) (by rw [hload]; simp)
     rw [R6] at hrun
     unfold execOp
     simp [ho, hx, convert, run_underlying hu, run_underlying hd, run_underlying hel, hrun]
    ·cases hm
   ·cases hm
 ·exact ED hsel hm
theorem ET {w : World} {r clock : Nat} {es : Array MapEntry} (hb : w.heap[r]? = some (.map es clock)) : (Go.getObj r).run P w = .ok (.map es clock) w := by
 unfold Go.getObj
 simp only [Sem.run, hb]
theorem j2 {t : TypeId} {x : Operand} (ho : o.op = .call { callee := .builtin .len, args := #[x], argTypes := #[t] }) (hm : YE P h nx t (evO G e x) = .ok v h' nx') : Good P G o e h nx v h' nx' := by
 unfold YE at hm
 split at hm
 ·rename_i a n c h1
  split at hm
  ·rename_i p ht
   obtain ⟨el, s⟩ := p
   obtain ⟨rfl, rfl, rfl⟩ := BF hm
   obtain ⟨hu, _⟩ := JH ht
   refine BC fun σ w ρ oe m => ⟨_, VR.int, ?_⟩
   have hx := oe x _ h1
   cases a with
   | none =>
    have hx := hx.scal_inv rfl
    unfold execOp
    simp [ho, hx, resolve, invoke, builtin, Builtin.len_, run_underlying hu, goInt]
   | some a =>
    obtain ⟨id, off, sp⟩ := a
    obtain ⟨L, A, c', hL, hx, _⟩ := hx.slice_any
    unfold execOp
    simp [ho, hx, resolve, invoke, builtin, Builtin.len_, run_underlying hu, goInt]
  ·cases hm
 ·rename_i s h1
  split at hm
  ·rename_i hu
   obtain ⟨rfl, rfl, rfl⟩ := BF hm
   refine BC fun σ w ρ oe m => ⟨_, VR.int, ?_⟩
   have hx := (oe x _ h1).scal_inv rfl
   unfold execOp
   simp [ho, hx, resolve, invoke, builtin, Builtin.len_, run_underlying hu, goInt]
  ·cases hm
 ·rename_i h1
  split at hm
  ·rename_i k el hu
   obtain ⟨rfl, rfl, rfl⟩ := BF hm
   refine BC fun σ w ρ oe m => ⟨_, VR.int, ?_⟩
   have hx := (oe x _ h1).scal_inv rfl
   unfold execOp
   simp [ho, hx, resolve, invoke, builtin, Builtin.len_, run_underlying hu, goInt]
  ·cases hm
 ·rename_i id h1
  split at hm
  ·rename_i k el clock bs l hu hb
   obtain ⟨rfl, rfl, rfl⟩ := BF hm
   refine BC fun σ w ρ oe m => ⟨_, VR.int, ?_⟩
   obtain ⟨L, hL, hx⟩ := (oe x _ h1).map_inv
   obtain ⟨L', hL', es, h2, h3, h4, h5⟩ := m.blk id _ hb
   rw [hL] at hL'; injection hL' with hL'; subst hL'
   have hlen : es.size = l.length := by have h9 := h3.len; rw [List.length_map, List.length_map, Array.length_toList] at h9; exact h9.symm
   have hg := ET (P := P) h2
   have hrun : (Builtin.len_ #[t] o.type #[.map (some L.blk)]).run P w = .ok (.int .i64 (l.length : Int)) w := by
    unfold Builtin.len_
    simp only [List.getElem?_toArray, List.getElem?_cons_zero, Sem.run_bind, run_underlying hu, Result.andThen_ok, hg, hlen, goInt]
    rfl
   unfold execOp
   simp [ho, hx, resolve, invoke, builtin, hrun]
  ·cases hm
 ·rename_i x' h0 h01 h02 h03 h1
  split at hm
  ·rename_i n el hu
   obtain ⟨rfl, rfl, rfl⟩ := BF hm
   refine BC fun σ w ρ oe m => ⟨_, VR.int, ?_⟩
   unfold execOp
   simp [ho, resolve, invoke, builtin, Builtin.len_, run_underlying hu, goInt]
  ·cases hm
 ·cases hm
theorem eR {s n0 : Nat} {x : Value} {cs : List Value} (hs : I5 h s (n0.min 0) x = some cs) : cs = [] := by
 rw [show n0.min 0 = 0 from Nat.min_eq_right (Nat.zero_le n0)] at hs
 unfold I5 at hs
 split at hs
 ·injection (BE hs (by simp)).2 with hs; exact hs.symm
 ·obtain ⟨_, hs⟩ := BE hs (by simp)
  split at hs
  ·have := JM _ _ _ hs; exact List.eq_nil_of_length_eq_zero (by simpa using this)
  ·injection (BE hs (by simp)).2 with hs; exact hs.symm
 ·injection (BE hs (by simp)).2 with hs; subst hs; simp
 ·cases hs
theorem Q5 {σ : Sg} {w : World} {s n : Nat} {x u : Value} {cs : List Value} (m : MR G σ h.get nx w) (hs : I5 h s n x = some cs) (hx : VR σ x u) :
 ∃ us, VRs σ cs us ∧ us.length = cs.length ∧ (Builtin.firstCells s n u).run P w = .ok us.toArray w ∧ (Builtin.firstCells s n u).run P w.drew = .ok us.toArray w.drew ∧ ∀ k, rG x = some k → (n = k → cs.length = n * s) ∧ ∀ w', (Builtin.lenOf u).run P w' = .ok k w' := by
 unfold I5 at hs
 split at hs
 ·rename_i l c
  obtain ⟨hn, hs⟩ := BE hs (by simp)
  injection hs with hs; subst hs
  have hn := Nat.eq_of_beq_eq_true hn; subst hn
  have := hx.scal_inv rfl; subst this
  refine ⟨[], .nil, rfl, rfl, rfl, fun k hk => ?_⟩
  injection hk with hk; subst hk
  exact ⟨fun _ => by simp, fun _ => rfl⟩
 ·rename_i id off sp l c
  obtain ⟨hnl, hs⟩ := BE hs (by simp)
  have hnl := Nat.le_of_ble_eq_true hnl
  obtain ⟨L, A, c', hL, hu, hA⟩ := hx.slice_any
  subst hu
  split at hs
  ·rename_i el m' k tb hb
   obtain ⟨us, h2, h3, h4⟩ := m.ldN hb hL (n * s) off hs
   have h4 : w.rangeAt L.blk A us := by
    rcases hA with rfl | rfl
    ·exact h4
    ·obtain rfl : n = 0 := by omega
     obtain rfl : us = [] := List.eq_nil_of_length_eq_zero (by simpa using h3)
     intro j u hu; simp at hu
   have hcells : ∀ w' : World, w'.heap = w.heap → (Builtin.firstCells s n (.slice (some ⟨L.blk, A, none⟩) l c')).run P w' = .ok us.toArray w' := fun w' hw' =>
    run_firstCells_some w' s n _ l c' us h3 (fun j u hu => by
     rw [Addr.add_mid, World.cell?_of_block (w := w) (by rw [hw'])]; exact h4 j u hu)
   refine ⟨us, h2, h2.len.symm, hcells w rfl, hcells w.drew rfl, fun k hk => ?_⟩
   injection hk with hk; subst hk
   exact ⟨fun _ => JM _ _ _ hs, fun _ => rfl⟩
  ·obtain ⟨hn, hs⟩ := BE hs (by simp)
   injection hs with hs; subst hs
   have hn := Nat.eq_of_beq_eq_true hn; subst hn
   refine ⟨[], .nil, rfl, ?_, ?_, fun k hk => ?_⟩
   ·exact run_firstCells_some w s 0 _ l c' [] (by simp) (by simp)
   ·exact run_firstCells_some w.drew s 0 _ l c' [] (by simp) (by simp)
   ·injection hk with hk; subst hk
    exact ⟨fun _ => by simp, fun _ => rfl⟩
 ·rename_i b
  obtain ⟨hs1, hs⟩ := BE hs (by simp)
  have hs1 := Nat.eq_of_beq_eq_true hs1; subst hs1
  injection hs with hs; subst hs
  have := hx.scal_inv rfl; subst this
  have hsz : b.size = b.data.toList.length := by obtain ⟨d⟩ := b; rfl
  have hf : ∀ w' : World, (Builtin.firstCells 1 n (.string b)).run P w' = .ok ((b.data.toList.take n).map fun x => Value.int .u8 (.ofNat x.toNat)).toArray w' := fun w' => by
   have : (b.extract 0 n).data.map (fun b => Value.int .u8 b.toNat) = ((b.data.toList.take n).map fun x => Value.int .u8 (.ofNat x.toNat)).toArray := by
    apply Array.ext'
    rw [Array.toList_map, Lib.extract_data]
    simp
   simp only [Builtin.firstCells, this]
   rfl
  refine ⟨_, VRs.of_get rfl fun i x hx => ⟨x, hx, ?_⟩, rfl, hf w, hf w.drew, fun k hk => ?_⟩
  ·obtain ⟨y, _, rfl⟩ := List.mem_map.1 (List.mem_of_getElem? hx)
   exact VR.int
  ·injection hk with hk; subst hk
   refine ⟨fun hn => by subst hn; simp, fun w' => ?_⟩
   simp only [Builtin.lenOf, hsz]; rfl
 ·cases hs
theorem YZ {x : Operand} {t : TypeId} (ho : o.op = .call { callee := .builtin .clear, args := #[x], argTypes := #[t] }) (hm : YF P h nx t (evO G e x) = .ok v h' nx') : Good P G o e h nx v h' nx' := by
 unfold YF at hm
 split at hm
 ·rename_i id off sp n c h1
  split at hm
  ·rename_i el s ht
   split at hm
   ·rename_i z hz
    obtain ⟨hc, hm⟩ := BE hm (by simp)
    simp only [Bool.and_eq_true] at hc
    have hn := AZ hc.1
    have hzl := AZ hc.2
    split at hm
    ·rename_i h2' hw
     obtain ⟨rfl, rfl, rfl⟩ := BF hm
     obtain ⟨hu, i, hi, his⟩ := JH ht
     obtain ⟨i2, hi2, hiz, hfl⟩ := CP hz
     intro σ w ρ oe m
     obtain ⟨L, c', hL, hd⟩ := (oe x _ h1).slice_inv hn
     obtain ⟨hrun, htr⟩ := m.write (P := P) hw hL (((VR.of_flat (σ := σ) hfl).cells).zeros n)
     have hzc : (Builtin.zeroCells z.cells n).toList = DP z.cells.toList n := by
      unfold Builtin.zeroCells
      rw [MM _ _ (by simpa using hzl)]
     obtain ⟨n', rfl⟩ : ∃ n', n = n' + 1 := ⟨n - 1, by omega⟩
     refine ⟨.tuple ⟨[]⟩, _, .inl ?_, σ, .tuple .nil .nil, htr⟩
     unfold execOp
     simp [ho, hd, resolve, invoke, builtin, Builtin.clear_, run_underlying hu, zeroValue, typeInfo, hi2, hiz, hzc, hrun]
    ·cases hm
   ·cases hm
  ·cases hm
 ·cases hm
theorem eS {d x : Operand} {t t' : TypeId} (ho : o.op = .call { callee := .builtin .copy, args := #[d, x], argTypes := #[t, t'] }) (hm : iX P h nx t (evO G e d) (evO G e x) = .ok v h' nx') : Good P G o e h nx v h' nx' := by
 unfold iX at hm
 split at hm
 ·rename_i a dl dc x' h1 h2
  split at hm
  ·rename_i el s n0 ht hl
   split at hm
   ·rename_i vs hs
    have hmin : bo (Nat.ble n0 dl) n0 dl = Nat.min n0 dl := by
     cases hb : Nat.ble n0 dl with
     | true => rw [CG]; exact (Nat.min_eq_left (Nat.le_of_ble_eq_true hb)).symm
     | false =>
      rw [BV]
      have : ¬ n0 ≤ dl := fun hh => by rw [Nat.ble_eq_true_of_le hh] at hb; cases hb
      exact (Nat.min_eq_right (by omega)).symm
    rw [hmin] at hm hs
    obtain ⟨hu, i, hi, his⟩ := JH ht
    subst his
    have fin : ∀ (σ : Sg) (w w' : World) (ρ : Operand → Value) (base : Option Addr) (c : Nat) (us : List Value), ρ d = .slice base dl c → (Builtin.lenOf (ρ x)).run P w = .ok n0 w → (Builtin.firstCells i.size (Nat.min n0 dl) (ρ x)).run P w = .ok us.toArray w →
     (∀ a, base = some a → (storeCells a us).run P w = .ok () w') → (base = none → w' = w) → (execOp ρ o).run P w = .ok (.value (.int .i64 (.ofNat (Nat.min n0 dl)))) w' := by
     intro σ w w' ρ base c us hd hl hf hst hn
     unfold execOp
     cases base with
     | none =>
      rw [hn rfl]
      simp [ho, hd, resolve, invoke, builtin, Builtin.copy_, run_underlying hu, hl, sizeOf, typeInfo, hi, hf, goInt]
     | some a => simp [ho, hd, resolve, invoke, builtin, Builtin.copy_, run_underlying hu, hl, sizeOf, typeInfo, hi, hf, hst a rfl, goInt]
    split at hm
    ·rename_i id off sp
     cases hempty : vs.isEmpty with
     | true =>
      rw [hempty, CG] at hm
      obtain ⟨rfl, rfl, rfl⟩ := BF hm
      refine BC fun σ w ρ oe m => ⟨_, VR.int, ?_⟩
      obtain ⟨L, A, c', hL, hd, _⟩ := (oe d _ h1).slice_any
      obtain ⟨us, h3, h4, h5, h6, h7⟩ := Q5 (P := P) m hs (oe x _ h2)
      have : us = [] := List.eq_nil_of_length_eq_zero (by rw [h4]; simpa using hempty)
      subst this
      exact fin σ w w ρ _ c' [] hd ((h7 n0 hl).2 w) h5 (fun a _ => rfl) (fun _ => rfl)
     | false =>
      rw [hempty, BV] at hm
      split at hm
      ·rename_i h2' hw
       obtain ⟨rfl, rfl, rfl⟩ := BF hm
       intro σ w ρ oe m
       obtain ⟨us, h3, h4, h5, h6, h7⟩ := Q5 (P := P) m hs (oe x _ h2)
       obtain ⟨L, c', hL, hd⟩ := (oe d _ h1).slice_inv (by
        rcases Nat.eq_zero_or_pos dl with h0 | h0
        ·subst h0
         exfalso
         have hz := eR hs
         rw [hz] at hempty; cases hempty
        ·exact h0)
       obtain ⟨hrun, htr⟩ := m.write (P := P) hw hL h3
       exact ⟨_, _, .inl (fin σ w _ ρ _ c' us hd ((h7 n0 hl).2 w) h5 (fun a ha => by injection ha with ha; subst ha; exact hrun) (fun hh => by cases hh)), σ, VR.int, htr⟩
      ·cases hm
    ·obtain ⟨hempty, hm⟩ := BE hm (by simp)
     obtain ⟨rfl, rfl, rfl⟩ := BF hm
     refine BC fun σ w ρ oe m => ⟨_, VR.int, ?_⟩
     have hd := (oe d _ h1).scal_inv rfl
     obtain ⟨us, h3, h4, h5, h6, h7⟩ := Q5 (P := P) m hs (oe x _ h2)
     exact fin σ w w ρ _ _ us hd ((h7 n0 hl).2 w) h5 (fun a ha => by cases ha) (fun _ => rfl)
   ·cases hm
  ·cases hm
 ·cases hm
end
end
section
section
variable {P : Program} {G : Nat} {o : Oper} {e : Tb Value} {h h' : Hp} {nx nx' : Nat} {v : Value}
theorem MR.lt {σ : Sg} {hf : Hf} {w : World} (m : MR G σ hf nx w) {id : Nat} {L : Loc} (hL : σ id = some L) : id < nx := by
 rcases Nat.lt_or_ge id nx with h1 | h1
 ·exact h1
 ·rw [m.free id h1] at hL; cases hL
theorem MR.sub {σ : Sg} {hf hf' : Hf} {w : World} (m : MR G σ hf nx w) (hs : ∀ i B, hf' i = some B → hf i = some B) : MR G σ hf' nx w :=
 have hsome : ∀ i, (hf' i).isSome = true → (hf i).isSome = true := fun i hi => by
  obtain ⟨B, hB⟩ := Option.isSome_iff_exists.1 hi
  rw [hs i B hB]; rfl
 ⟨fun i B hB => m.blk i B (hs i B hB), fun i i' L L' h1 h2 => m.sep i i' L L' (hsome i h1) (hsome i' h2), m.free, m.glob, m.gle⟩
theorem Tr.sub {σ : Sg} {hf hf' : Hf} {w : World} (m : MR G σ hf nx w) (hs : ∀ i B, hf' i = some B → hf i = some B) : Tr G σ hf nx w σ hf' nx w :=
 ⟨Nat.le_refl _, Sg.le.refl σ, fun _ _ => rfl, m.sub hs, rfl, rfl, rfl, Nat.le_refl _, fun _ _ _ => rfl, fun i L' hi hl => .inr ⟨i, L', by
  obtain ⟨B, hB⟩ := Option.isSome_iff_exists.1 hi
  rw [hs i B hB]; rfl, hl, rfl⟩, fun i _ hn => by
  cases hq : hf' i with
  | none => rfl
  | some B => (rw [hs i B hq] at hn; cases hn), fun _ _ hq => ⟨rfl, fun i L1 B1 h1 h2 h3 => hq i L1 B1 (hs i B1 h1) h2 h3⟩⟩
theorem MR.renameAt {σ : Sg} {hf : Hf} {w : World} (m : MR G σ hf nx w) {id : Nat} {L L' : Loc} {B B' : Bl} (hb : hf id = some B) (hL : σ id = some L) (hblk : L'.blk = L.blk) (hbr : ∀ σ' : Sg, σ.le σ' → BR σ' L' w B') (hro : B.ro → B'.ro := by simp [Bl.ro]) :
 Tr G σ hf nx w (fun i => if i = nx then some L' else σ i) (fun i => if i = nx then some B' else if i = id then none else hf i) (nx + 1) w := by
 have hid := m.lt hL
 have hle : σ.le (fun i => if i = nx then some L' else σ i) := fun i L1 hi => by
  have := m.lt hi
  simp only [if_neg (show ¬ i = nx by omega)]; exact hi
 have hlive : ∀ i L1, (if i = nx then some B' else if i = id then none else hf i).isSome = true → (if i = nx then some L' else σ i) = some L1 → ∃ j L0, (hf j).isSome = true ∧ σ j = some L0 ∧ L0.blk = L1.blk ∧ (i = nx → j = id) ∧ (i ≠ nx → j = i ∧ i ≠ id) := fun i L1 h1 h2 => by
  by_cases e : i = nx
  ·rw [if_pos e] at h2
   injection h2 with h2; subst h2
   exact ⟨id, L, by rw [hb]; rfl, hL, hblk.symm, fun _ => rfl, fun hn => absurd e hn⟩
  ·rw [if_neg e] at h1 h2
   by_cases e2 : i = id
   ·rw [if_pos e2] at h1; cases h1
   ·rw [if_neg e2] at h1
    exact ⟨i, L1, h1, h2, rfl, fun hh => absurd hh e, fun _ => ⟨rfl, e2⟩⟩
 refine ⟨by omega, hle, fun i hi => by rw [if_neg (by omega)], ⟨fun i B2 hi => ?_, fun i i' L1 L2 h1 h2 h3 h4 h5 => ?_, fun i hi => ?_, fun g hg => ?_, by have := m.gle; omega⟩, rfl, rfl, rfl, Nat.le_refl _, fun _ _ _ => rfl, fun i L1 hi hs => ?_, fun i hi hn => by
  rw [if_neg (by omega)]
  by_cases e : i = id
  ·rw [if_pos e]
  ·rw [if_neg e]; exact hn, fun r hr hq => ⟨rfl, fun i L1 B1 (h1 : (if i = nx then some B' else if i = id then none else hf i) = some B1) (h2 : (if i = nx then some L' else σ i) = some L1) h3 => by
  by_cases e : i = nx
  ·rw [if_pos e] at h1 h2
   injection h1 with h1; subst h1
   injection h2 with h2; subst h2
   exact hro (hq id L B hb hL (hblk.symm.trans h3))
  ·rw [if_neg e] at h1 h2
   by_cases e2 : i = id
   ·rw [if_pos e2] at h1; cases h1
   ·rw [if_neg e2] at h1; exact hq i L1 B1 h1 h2 h3⟩⟩
 ·by_cases e : i = nx
  ·rw [if_pos e] at hi; injection hi with hi; subst hi
   exact ⟨L', by rw [if_pos e], hbr _ hle⟩
  ·rw [if_neg e] at hi
   by_cases e2 : i = id
   ·rw [if_pos e2] at hi; cases hi
   ·rw [if_neg e2] at hi
    obtain ⟨L1, h1, h2⟩ := m.blk i B2 hi
    exact ⟨L1, by rw [if_neg e]; exact h1, h2.keep hle rfl⟩
 ·obtain ⟨j, La, h6, h7, h10, h8, h9⟩ := hlive i L1 h1 h3
  obtain ⟨j', Lb, h6', h7', h10', h8', h9'⟩ := hlive i' L2 h2 h4
  have hj := m.sep j j' La Lb h6 h6' h7 h7' (by rw [h10, h10', h5])
  by_cases e : i = nx <;> by_cases e' : i' = nx
  ·rw [e, e']
  ·have := h9' e'; have := h8 e; omega
  ·have := h9 e; have := h8' e'; omega
  ·have := h9 e; have := h9' e'; omega
 ·rw [if_neg (by omega)]; exact m.free i (by omega)
 ·have := m.gle
  rw [if_neg (by omega)]; exact m.glob g hg
 ·obtain ⟨j, L0, h6, h7, h8, _⟩ := hlive i L1 hi hs
  exact .inr ⟨j, L0, h6, h7, h8⟩
theorem MR.rename {σ : Sg} {hf : Hf} {w : World} (m : MR G σ hf nx w) {id : Nat} {L : Loc} {B : Bl} (hb : hf id = some B) (hL : σ id = some L) :
 Tr G σ hf nx w (fun i => if i = nx then some L else σ i) (fun i => if i = nx then some B else if i = id then none else hf i) (nx + 1) w :=
 m.renameAt hb hL rfl (fun σ' hs => by
  obtain ⟨L1, h1, h2⟩ := m.blk id B hb
  rw [hL] at h1; injection h1 with h1; subst h1
  exact h2.keep hs rfl) (fun h => h)
theorem II {ρ : Operand → Value} {s x : Operand} {t u : TypeId} {w w' : World} {r : Value} (ho : o.op = .call { callee := .builtin .append, args := #[s, x], argTypes := #[t, u] })
 (hr : (Builtin.append_ #[t, u] o.type #[ρ s, ρ x]).run P w = .ok r w') : (execOp ρ o).run P w = .ok (.value r) w' := by
 unfold execOp
 simp only [ho, resolve, invoke, builtin, Sem.run_bind, Sem.run_pure, Result.andThen_ok, List.map_toArray, List.map_cons, List.map_nil, hr]
theorem PK {σ : Sg} {w : World} {hp : Hp} (m : MR G σ hp.get nx w) {el s n : Nat} {z : Value} (hzs : z.cells.toList.length = s) {cs us : List Value} (hv : VRs σ cs us) (hlen : us.length = n * s) {cap : Nat} (hcap : n ≤ cap) (c : Tb Value) (hc : ∀ i, c.get i = cs[i]?) :
 ∃ σ', VR σ' (.slice (some ⟨nx, 0, some s⟩) n 0) (.slice (some ⟨w.heap.size, 0, none⟩) n cap) ∧
  Tr G σ hp.get nx w σ' (hp.put nx (.cells el cs.length 0 c)).get (nx + 1) (w.drew.alloc (.cells (us.toArray ++ Builtin.zeroCells z.cells (cap - n)) el)) := by
 have hsz : (us.toArray ++ Builtin.zeroCells z.cells (cap - n)).size = cap * s := by
  have hz : z.cells.size = s := by simpa using hzs
  rw [Array.size_append, size_zeroCells, hz]
  simp only [List.size_toArray, hlen]
  rw [← Nat.add_mul]; congr 1; omega
 obtain ⟨σ', h1, h2, h3⟩ := m.newRowIn (w' := w.drew.alloc (.cells (us.toArray ++ Builtin.zeroCells z.cells (cap - n)) el)) (row := us.toArray ++ Builtin.zeroCells z.cells (cap - n)) (fz := (0, 0)) el c hv hc (heap_alloc_new w.drew _) (fun i u hu => by
  have hi := (List.getElem?_eq_some_iff.1 hu).1
  rw [Array.getElem?_append_left (by simpa using hi)]; simpa using hu) (by simp) (.inl rfl) ⟨rfl, rfl, rfl⟩ (by simp) (fun r hr => Below.heap_alloc w.drew _ r hr)
 rw [hsz] at h1
 exact ⟨σ', .slo (L := ⟨w.heap.size, 0, cap * s⟩) h1 hcap (by simp) .nil, h3⟩
theorem QK {el s n : Nat} {cs : List Value} (hm : PF P h nx el s n cs = .ok v h' nx') :
 ∃ z, GG P el = some z ∧ z.cells.toList.length = s ∧ v = .slice (some ⟨nx, 0, some s⟩) n 0 ∧ h' = h.put nx (.cells el cs.length 0 (Tb.of cs)) ∧ nx' = nx + 1 := by
 unfold PF at hm
 split at hm
 ·rename_i z hz
  obtain ⟨h1, hm⟩ := BE hm (by simp)
  obtain ⟨rfl, rfl, rfl⟩ := E4 hm
  exact ⟨z, hz, Nat.eq_of_beq_eq_true h1, rfl, rfl, rfl⟩
 ·cases hm
theorem rV {need cap bytes : Nat} (h1 : cap < need) (h2 : need ≤ 16777216) (h3 : bytes ≤ 1048576) : Builtin.nextslicecap need cap * bytes ≤ 281474976710656 := by
 have h4 := nextslicecap_le h1
 have h5 : Builtin.nextslicecap need cap * bytes ≤ (2 * 16777216) * 1048576 := Nat.mul_le_mul (by omega) h3
 omega
theorem XJ {s x : Operand} {t u : TypeId} (ho : o.op = .call { callee := .builtin .append, args := #[s, x], argTypes := #[t, u] })
 (hk : (∃ e', P.underlying u = some (.slice e')) ∨ P.underlying u = some .string) (hm : PG P h nx t (evO G e s) (evO G e x) = .ok v h' nx') : Good P G o e h nx v h' nx' := by
 unfold PG at hm
 split at hm
 ·rename_i a sl sc x' h1 h2
  split at hm
  ·rename_i el sz n ht hl
   split at hm
   ·rename_i i news hi hs
    obtain ⟨hc, hm1⟩ := BE hm (by simp)
    clear hm
    have hm := hm1; clear hm1
    simp only [Bool.and_eq_true] at hc
    have hpos := AZ hc.1
    have h24 := Nat.le_of_ble_eq_true hc.2.1
    have hby := Nat.le_of_ble_eq_true hc.2.2.1
    have hone := hc.2.2.2
    obtain ⟨hu, i', hi', his⟩ := JH ht
    rw [hi] at hi'; injection hi' with hi'; subst hi'
    subst his
    have src : ∀ (σ : Sg) (w : World) (ρ : Operand → Value), OE σ G e ρ → MR G σ h.get nx w → ∃ us, VRs σ news us ∧ news.length = n * i.size ∧ us.length = n * i.size ∧ Src P i.size u (ρ x) n us w := fun σ w ρ oe m => by
     obtain ⟨us, h3, h4, h5, h6, h7⟩ := Q5 (P := P) m hs (oe x _ h2)
     have h8 := (h7 n hl).1 rfl
     exact ⟨us, h3, h8, by omega, hk, (h7 n hl).2, h5, h6, by omega, h3.one hone⟩
    have grow : ∀ (σ : Sg) (w : World) (ρ : Operand → Value) (base : Option Addr) (cap : Nat) (us olds : List Value), Src P i.size u (ρ x) n us w → ρ s = .slice base sl cap → cap < sl + n → (Builtin.firstCells i.size sl (.slice base sl cap)).run P w.drew = .ok olds.toArray w.drew →
     ∀ z, i.zero = some z → (execOp ρ o).run P w = .ok (.value (.slice (some ⟨w.heap.size, 0, none⟩) (sl + n) (grownCap w (sl + n) cap el))) (w.drew.alloc (.cells ((olds ++ us).toArray ++ Builtin.zeroCells z.cells (grownCap w (sl + n) cap el - (sl + n))) el)) := fun σ w ρ base cap us olds hsrc hb hlt hold z hz => by
     refine II ho ?_
     rw [hb]
     exact run_append_grow_src w t u o.type el i z hu hi hz base sl cap olds hold (ρ x) n us hsrc hlt (by omega) (rV hlt h24 hby)
    cases a with
    | none =>
     obtain ⟨hc2, hm1⟩ := BE (show lM P h nx el i.size n sl sc news = _ from hm) (by simp)
     clear hm
     have hm := hm1; clear hm1
     simp only [Bool.and_eq_true] at hc2
     have hsl := Nat.eq_of_beq_eq_true hc2.1
     have hsc := Nat.eq_of_beq_eq_true hc2.2
     subst hsl; subst hsc
     cases hn : Nat.beq n 0 with
     | true =>
      rw [hn, CG] at hm
      have hn := Nat.eq_of_beq_eq_true hn
      subst hn
      obtain ⟨rfl, rfl, rfl⟩ := BF hm
      refine BC fun σ w ρ oe m => ⟨.slice none 0 0, .sc _ rfl .nil, ?_⟩
      have hsx := (oe s _ h1).scal_inv rfl
      obtain ⟨us, h3, h4, h5, h6⟩ := src σ w ρ oe m
      have : us = [] := List.eq_nil_of_length_eq_zero (by omega)
      subst this
      refine II ho ?_
      rw [hsx]
      exact run_append_nothing w t u o.type el i hu hi none 0 0 (Nat.le_refl _) (ρ x) h6
     | false =>
      rw [hn, BV] at hm
      have hn : n ≠ 0 := fun e => by subst e; simp at hn
      obtain ⟨z, hz, hzs, rfl, rfl, rfl⟩ := QK hm
      obtain ⟨i2, hi2, hiz, _⟩ := CP hz
      rw [hi] at hi2; injection hi2 with hi2; subst hi2
      intro σ w ρ oe m
      have hsx := (oe s _ h1).scal_inv rfl
      obtain ⟨us, h3, h4, h5, h6⟩ := src σ w ρ oe m
      have hrun := grow σ w ρ none 0 us [] h6 hsx (by omega) rfl z hiz
      simp only [List.nil_append, Nat.zero_add] at hrun
      obtain ⟨σ', h7, h8⟩ := PK m (el := el) hzs h3 h5 (grownCap_ge w n 0 el) (Tb.of news) (fun i => Tb.get_of _ i)
      exact ⟨_, _, .inl hrun, σ', h7, h8⟩
    | some a =>
    obtain ⟨id, off, sp⟩ := a
    cases sp with
    | none =>
     change RZ P h nx el i.size n sl sc id off news = _ at hm
     unfold RZ at hm
     cases hle : Nat.ble (sl + n) sc with
     | true =>
      rw [hle, CG] at hm
      have hle := Nat.le_of_ble_eq_true hle
      split at hm
      ·rename_i h2' hw
       obtain ⟨rfl, rfl, rfl⟩ := BF hm
       intro σ w ρ oe m
       obtain ⟨L, hL, hsx⟩ := (oe s _ h1).sl_inv
       obtain ⟨us, h3, h4, h5, h6⟩ := src σ w ρ oe m
       obtain ⟨el', n', k, c, hb, hle2, hk0, hone', hh'⟩ := XN hw
       obtain ⟨row, fz, hr1, hr2, hr3, hr4, hr5, hr6, hr7⟩ := m.cells hb hL
       obtain ⟨_, htr⟩ := m.write (P := P) hw hL h3
       refine ⟨.slice (some ⟨L.blk, L.base + off, none⟩) (sl + n) sc, _, .inl (II ho ?_), σ, .sl hL .nil, htr⟩
       rw [hsx]
       have hroom := run_append_room_src (P := P) w t u o.type el i hu hi L.blk (L.base + off) sl sc (ρ x) n us h6 hle
        (fun j hj => by rw [cell_of_row w L.blk _ row el' fz hr1, Array.getElem?_eq_getElem (by omega)]; rfl) (fun j hj => hr6 (by omega) _ (by omega))
       rw [show L.base + (off + sl * i.size) = L.base + off + sl * i.size by omega]
       exact hroom
      ·obtain ⟨hn, hm⟩ := BE hm (by simp)
       have hn := Nat.eq_of_beq_eq_true hn
       subst hn
       obtain ⟨rfl, rfl, rfl⟩ := BF hm
       refine BC fun σ w ρ oe m => ?_
       obtain ⟨L, hL, hsx⟩ := (oe s _ h1).sl_inv
       obtain ⟨us, h3, h4, h5, h6⟩ := src σ w ρ oe m
       have : us = [] := List.eq_nil_of_length_eq_zero (by omega)
       subst this
       refine ⟨.slice (some ⟨L.blk, L.base + off, none⟩) (sl + 0) sc, .sl hL .nil, II ho ?_⟩
       rw [hsx]
       exact run_append_nothing w t u o.type el i hu hi _ sl sc (by omega) (ρ x) h6
     | false =>
      rw [hle, BV] at hm
      have hle : sc < sl + n := by
       rcases Nat.lt_or_ge sc (sl + n) with hh | hh
       ·exact hh
       ·rw [Nat.ble_eq_true_of_le hh] at hle; cases hle
      split at hm
      ·rename_i olds hold
       obtain ⟨z, hz, hzs, rfl, rfl, rfl⟩ := QK hm
       obtain ⟨i2, hi2, hiz, _⟩ := CP hz
       rw [hi] at hi2; injection hi2 with hi2; subst hi2
       intro σ w ρ oe m
       obtain ⟨us, h3, h4, h5, h6⟩ := src σ w ρ oe m
       obtain ⟨L, hL, hsx⟩ := (oe s _ h1).sl_inv
       obtain ⟨os, g1, g2, g3, g4, g5⟩ := Q5 (P := P) m hold (.sl hL .nil)
       have g6 := (g5 sl rfl).1 rfl
       have hrun := grow σ w ρ _ sc us os h6 hsx hle g4 z hiz
       obtain ⟨σ', h7, h8⟩ := PK m (el := el) hzs (g1.append h3) (by rw [List.length_append, h5, g2, g6, Nat.add_mul]) (grownCap_ge w (sl + n) sc el) (Tb.of (olds ++ news)) (fun i => Tb.get_of _ i)
       exact ⟨_, _, .inl hrun, σ', h7, h8⟩
      ·cases hm
    | some zz =>
     obtain ⟨hc2, hm1⟩ := BE (show bO P h nx el i.size n sl sc id off zz news = _ from hm) (by simp)
     clear hm
     have hm := hm1; clear hm1
     simp only [Bool.and_eq_true] at hc2
     have hzz := Nat.eq_of_beq_eq_true hc2.1
     have hsc := Nat.eq_of_beq_eq_true hc2.2
     subst hzz; subst hsc
     split at hm
     ·rename_i el' mm k c hb
      cases hle : Nat.ble (off + (sl + n) * i.size) mm with
      | true =>
       rw [hle, CG] at hm
       have hle := Nat.le_of_ble_eq_true hle
       split at hm
       ·rename_i h2' hw
        obtain ⟨rfl, rfl, rfl⟩ := BF hm
        intro σ w ρ oe m
        obtain ⟨L, c', hL, hsc', hroom', _, hsx⟩ := (oe s _ h1).slo_inv
        obtain ⟨us, h3, h4, h5, h6⟩ := src σ w ρ oe m
        obtain ⟨el2, n', k', c2, hb', hle2, hk0, hone', hh'⟩ := XN hw
        obtain ⟨row, fz, hr1, hr2, hr3, hr4, hr5, hr6, hr7⟩ := m.cells hb' hL
        rw [hb] at hb'; injection hb' with hb'; injection hb' with e1 e2 e3 e4; subst e2
        obtain ⟨_, htr⟩ := m.write (P := P) hw hL h3
        have hcap : sl + n ≤ c' := by
         have : (sl + n) * i.size ≤ c' * i.size := by omega
         exact Nat.le_of_mul_le_mul_right this hpos
        refine ⟨.slice (some ⟨L.blk, L.base + off, none⟩) (sl + n) c', _, .inl (II ho ?_), σ, .slo hL hcap hroom' .nil, htr⟩
        rw [hsx]
        have hroom := run_append_room_src (P := P) w t u o.type el i hu hi L.blk (L.base + off) sl c' (ρ x) n us h6 hcap
         (fun j hj => by
          rw [Nat.add_mul] at hle
          rw [cell_of_row w L.blk _ row el2 fz hr1, Array.getElem?_eq_getElem (by omega)]; rfl) (fun j hj => hr6 (by omega) _ (by rw [Nat.add_mul] at hle; omega))
        rw [show L.base + (off + sl * i.size) = L.base + off + sl * i.size by omega]
        exact hroom
       ·cases hm
      | false =>
       rw [hle, BV] at hm
       split at hm
       ·rename_i zv hzv
        obtain ⟨hc3, hm3⟩ := BE hm (by simp)
        clear hm
        simp only [Bool.and_eq_true] at hc3
        have hzs := Nat.eq_of_beq_eq_true hc3.1
        have hm2 := Nat.eq_of_beq_eq_true hc3.2.1
        have hk0 := Nat.eq_of_beq_eq_true hc3.2.2.1
        have hee := Nat.eq_of_beq_eq_true hc3.2.2.2
        cases hoffb : Nat.beq off 0 with
        | false =>
         rw [hoffb, BV] at hm3
         subst hm2; subst hk0; subst hee
         split at hm3
         ·rename_i olds hold
          rw [J7, bA] at hm3
          obtain ⟨rfl, rfl, rfl⟩ := E4 hm3
          obtain ⟨i2, hi2, hiz, _⟩ := CP hzv
          rw [hi] at hi2; injection hi2 with hi2; subst hi2
          intro σ w ρ oe m
          obtain ⟨us, h3, h4, h5, h6⟩ := src σ w ρ oe m
          obtain ⟨L, c', hL, hsc', hroom', _, hsx⟩ := (oe s _ h1).slo_inv
          obtain ⟨row, fz, hr1, hr2, hr3, hr4, hr5, hr6, hr7⟩ := m.cells hb hL
          have hlen := JM _ _ _ hold
          obtain ⟨os, g1, g2, g3⟩ := m.ldN hb hL (sl * i.size) off hold
          rcases Nat.lt_or_ge c' (sl + n) with hcap | hcap
          ·have hf : (Builtin.firstCells i.size sl (.slice (some ⟨L.blk, L.base + off, none⟩) sl c')).run P w.drew = .ok os.toArray w.drew :=
            run_firstCells_some w.drew i.size sl _ sl c' os (by rw [g2]) (fun j y hy => by
             rw [Addr.add_mid]; exact g3 j y hy)
           have hrun := grow σ w ρ _ c' us os h6 hsx hcap hf zv hiz
           have m' : MR G σ (h.del id).get nx w := m.sub fun j B hB => by
            rw [Tb.get_del] at hB
            split at hB
            ·cases hB
            ·exact hB
           obtain ⟨σ', h7, h8⟩ := PK m' (el := el) hzs (g1.append h3) (by rw [List.length_append, h5, g2, Nat.add_mul]) (grownCap_ge w (sl + n) c' el) (Tb.of (olds ++ news)) (fun j => by rw [Tb.get_of])
           refine ⟨_, _, .inl hrun, σ', h7, Tr.trans (Tr.sub m fun j B hB => ?_) h8⟩
           rw [Tb.get_del] at hB
           split at hB
           ·cases hB
           ·exact hB
          ·have hspace : L.base + off + sl * i.size + us.length ≤ L.size := by
            have : (sl + n) * i.size ≤ c' * i.size := Nat.mul_le_mul_right _ hcap
            rw [Nat.add_mul] at this
            omega
           have hroom := run_append_room_src (P := P) w t u o.type el i hu hi L.blk (L.base + off) sl c' (ρ x) n us h6 hcap
            (fun j hj => by rw [cell_of_row w L.blk _ row el fz hr1, Array.getElem?_eq_getElem (by omega)]; rfl) (fun j hj => hr6 (by omega) _ (by omega))
           have t1 := m.upd (B' := .cells el (off + sl * i.size + news.length) 0 (stN news c (off + sl * i.size))) (w' := w.setCells L.blk (L.base + off + sl * i.size) us) hb hL
            ⟨IV row (L.base + off + sl * i.size) us, fz, HP _ _ _ _ _ _ _ hr1, by rw [IR, hr2], by omega, fun j => by
             rw [HO]
             by_cases hj : off + sl * i.size ≤ j ∧ j < off + sl * i.size + news.length
             ·rw [if_pos hj, List.getElem?_eq_getElem (by omega)]; simp; omega
             ·rw [if_neg hj, hr4 j]; omega, fun j y hy => by
             rw [HO] at hy
             rw [JJ _ _ _ _ (by omega)]
             by_cases hj : off + sl * i.size ≤ j ∧ j < off + sl * i.size + news.length
             ·rw [if_pos hj] at hy
              rw [if_pos (by omega), show L.base + j - (L.base + off + sl * i.size) = j - (off + sl * i.size) by omega]
              exact h3.get hy
             ·rw [if_neg hj] at hy
              rw [if_neg (by omega)]
              exact hr5 j y hy, fun _ => hr7 (by simp)⟩
            (GR _ _ _ _) (GQ _ _ _ _) (fun r hr => FZ _ _ _ _ r hr)
           have hol : ∀ j, j < sl * i.size → c.get (off + j) = olds[j]? := fun j hj => aQ _ _ _ hold j hj
           obtain ⟨L1, hL1, row2, fz2, q1, q2, q3, q4, q5, q6⟩ := t1.mr.blk id (.cells el (off + sl * i.size + news.length) 0 (stN news c (off + sl * i.size))) (if_pos rfl)
           rw [hL] at hL1; injection hL1 with hL1; subst hL1
           have hsh : ∀ j, (Tb.of (olds ++ news)).get j = if j < sl * i.size + news.length then (stN news c (off + sl * i.size)).get (off + j) else none := fun j => by
            rw [Tb.get_of, HO]
            by_cases hj : j < sl * i.size + news.length
            ·rw [if_pos hj]
             by_cases hj2 : j < sl * i.size
             ·rw [if_neg (by omega), List.getElem?_append_left (by omega), hol j hj2]
             ·rw [if_pos (by omega), List.getElem?_append_right (by omega)]
              congr 1; omega
            ·rw [if_neg hj, List.getElem?_eq_none (by simp; omega)]
           have t2 := t1.mr.renameAt (id := id) (L := L) (L' := ⟨L.blk, L.base + off, L.size⟩) (B' := .cells el (olds ++ news).length 0 (Tb.of (olds ++ news))) (by rw [if_pos rfl]) hL rfl (fun σ' hs => ⟨row2, fz2, q1, q2, by simp; omega, fun j => by
            rw [Tb.get_of]; simp, fun j y hy => by
            rw [hsh] at hy
            split at hy
            ·obtain ⟨u0, hu0, hr0⟩ := q5 (off + j) y hy
             exact ⟨u0, by rw [← hu0]; show row2[L.base + off + j]? = row2[L.base + (off + j)]?; rw [Nat.add_assoc], hr0.mono hs⟩
            ·(cases hy), q6⟩)
           refine ⟨.slice (some ⟨L.blk, L.base + off, none⟩) (sl + n) c', w.setCells L.blk (L.base + off + sl * i.size) us, .inl (II ho ?_), (fun j => if j = nx then some ⟨L.blk, L.base + off, L.size⟩ else σ j), .slo (L := ⟨L.blk, L.base + off, L.size⟩) (off := 0) (by rw [if_pos rfl]) hcap (by simpa using hroom') .nil, ?_⟩
           ·rw [hsx]; exact hroom
           ·have hget : ((h.del id).put nx (.cells el (olds ++ news).length 0 (Tb.of (olds ++ news)))).get = fun j => if j = nx then some (.cells el (olds ++ news).length 0 (Tb.of (olds ++ news))) else if j = id then none else h.get j := by
             rw [Tb.put_fun]; funext j; rw [Tb.get_del]
            rw [hget]
            have hfun : (fun j => if j = nx then some (Bl.cells el (olds ++ news).length 0 (Tb.of (olds ++ news))) else if j = id then none else h.get j) = (fun j => if j = nx then some (Bl.cells el (olds ++ news).length 0 (Tb.of (olds ++ news))) else if j = id then none else if j = id then some (Bl.cells el (off + sl * i.size + news.length) 0 (stN news c (off + sl * i.size))) else h.get j) := by
             funext j
             by_cases e1 : j = nx
             ·rw [if_pos e1, if_pos e1]
             ·rw [if_neg e1, if_neg e1]
              by_cases e2 : j = id
              ·rw [if_pos e2, if_pos e2]
              ·rw [if_neg e2, if_neg e2, if_neg e2]
            rw [hfun]
            exact t1.trans t2
         ·cases hm3
        | true =>
        rw [hoffb, CG] at hm3
        have hoff := Nat.eq_of_beq_eq_true hoffb
        subst hoff
        rw [Nat.zero_add] at hm2
        subst hm2; subst hk0; subst hee
        rw [XU, bA] at hm3
        obtain ⟨rfl, rfl, rfl⟩ := E4 hm3
        obtain ⟨i2, hi2, hiz, _⟩ := CP hzv
        rw [hi] at hi2; injection hi2 with hi2; subst hi2
        intro σ w ρ oe m
        obtain ⟨us, h3, h4, h5, h6⟩ := src σ w ρ oe m
        obtain ⟨L, c', hL, hsc', hroom', _, hsx⟩ := (oe s _ h1).slo_inv
        obtain ⟨row, fz, hr1, hr2, hr3, hr4, hr5, hr6, hr7⟩ := m.cells hb hL
        have hidne : id ≠ nx := by have := m.lt hL; omega
        have hget : ((h.del id).put nx (.cells el (sl * i.size + news.length) 0 (stN news c (sl * i.size)))).get = fun j => if j = nx then some (.cells el (sl * i.size + news.length) 0 (stN news c (sl * i.size))) else if j = id then none else h.get j := by
         rw [Tb.put_fun]; funext j; rw [Tb.get_del]
        rcases Nat.lt_or_ge c' (sl + n) with hcap | hcap
        ·obtain ⟨os, g1, g2, g3⟩ : ∃ os, VRs σ ((List.range (sl * i.size)).map fun j => (c.get j).getD undef) os ∧ os.length = sl * i.size ∧ w.rangeAt L.blk (L.base + 0) os := by
          refine ⟨(List.range (sl * i.size)).map fun j => row.getD (L.base + j) undef, VRs.of_get (by simp) fun j y hy => ?_, by simp, fun j y hy => ?_⟩
          ·have hj := (List.getElem?_eq_some_iff.1 hy).1
           simp only [List.length_map, List.length_range] at hj
           obtain ⟨v0, hv0⟩ := Option.isSome_iff_exists.1 ((hr4 j).2 hj)
           obtain ⟨u0, hu0, hr0⟩ := hr5 j v0 hv0
           refine ⟨u0, ?_, ?_⟩
           ·simp [hj, hu0]
           ·simp [hj, hv0] at hy; subst hy; exact hr0
          ·have hj := (List.getElem?_eq_some_iff.1 hy).1
           simp only [List.length_map, List.length_range] at hj
           obtain ⟨v0, hv0⟩ := Option.isSome_iff_exists.1 ((hr4 j).2 hj)
           obtain ⟨u0, hu0, hr0⟩ := hr5 j v0 hv0
           rw [cell_of_row w L.blk _ row el fz hr1, Nat.add_zero]
           simp [hj, hu0] at hy
           rw [hu0, hy]
         have hf : (Builtin.firstCells i.size sl (.slice (some ⟨L.blk, L.base + 0, none⟩) sl c')).run P w.drew = .ok os.toArray w.drew :=
          run_firstCells_some w.drew i.size sl _ sl c' os (by rw [g2]) (fun j y hy => by
           rw [Addr.add_mid]; exact g3 j y hy)
         have hrun := grow σ w ρ _ c' us os h6 hsx hcap hf zv hiz
         have m' : MR G σ (h.del id).get nx w := m.sub fun j B hB => by
          rw [Tb.get_del] at hB
          split at hB
          ·cases hB
          ·exact hB
         obtain ⟨σ', h7, h8⟩ := PK m' (el := el) hzs (g1.append h3) (by rw [List.length_append, h5, g2, Nat.add_mul]) (grownCap_ge w (sl + n) c' el) (stN news c (sl * i.size)) (fun j => by
          rw [HO]
          by_cases hj : sl * i.size ≤ j ∧ j < sl * i.size + news.length
          ·rw [if_pos hj, List.getElem?_append_right (by simp; omega)]; simp
          ·rw [if_neg hj]
           by_cases hj2 : j < sl * i.size
           ·rw [List.getElem?_append_left (by simpa using hj2)]
            obtain ⟨v0, hv0⟩ := Option.isSome_iff_exists.1 ((hr4 j).2 hj2)
            simp [hj2, hv0]
           ·rw [List.getElem?_eq_none (by simp; omega)]
            cases hcg : c.get j with
            | none => rfl
            | some v0 => exact absurd ((hr4 j).1 (by rw [hcg]; rfl)) hj2)
         rw [show (((List.range (sl * i.size)).map fun j => (c.get j).getD undef) ++ news).length = sl * i.size + news.length by simp] at h8
         refine ⟨_, _, .inl hrun, σ', h7, Tr.trans (Tr.sub m fun j B hB => ?_) h8⟩
         rw [Tb.get_del] at hB
         split at hB
         ·cases hB
         ·exact hB
        ·have hspace : L.base + sl * i.size + us.length ≤ L.size := by
          have : (sl + n) * i.size ≤ c' * i.size := Nat.mul_le_mul_right _ hcap
          rw [Nat.add_mul] at this
          omega
         have hroom := run_append_room_src (P := P) w t u o.type el i hu hi L.blk (L.base + 0) sl c' (ρ x) n us h6 hcap
          (fun j hj => by rw [cell_of_row w L.blk _ row el fz hr1, Array.getElem?_eq_getElem (by omega)]; rfl) (fun j hj => hr6 (by omega) _ (by omega))
         rw [Nat.add_zero] at hroom
         have t1 := m.upd (B' := .cells el (sl * i.size + news.length) 0 (stN news c (sl * i.size))) (w' := w.setCells L.blk (L.base + sl * i.size) us) hb hL
          ⟨IV row (L.base + sl * i.size) us, fz, HP _ _ _ _ _ _ _ hr1, by rw [IR, hr2], by omega, fun j => by
           rw [HO]
           by_cases hj : sl * i.size ≤ j ∧ j < sl * i.size + news.length
           ·rw [if_pos hj, List.getElem?_eq_getElem (by omega)]; simp; omega
           ·rw [if_neg hj, hr4 j]; omega, fun j y hy => by
           rw [HO] at hy
           rw [JJ _ _ _ _ (by omega)]
           by_cases hj : sl * i.size ≤ j ∧ j < sl * i.size + news.length
           ·rw [if_pos hj] at hy
            rw [if_pos (by omega), show L.base + j - (L.base + sl * i.size) = j - sl * i.size by omega]
            exact h3.get hy
           ·rw [if_neg hj] at hy
            rw [if_neg (by omega)]
            exact hr5 j y hy, fun _ => hr7 (by simp)⟩
          (GR _ _ _ _) (GQ _ _ _ _) (fun r hr => FZ _ _ _ _ r hr)
         have t2 := t1.mr.rename (id := id) (L := L) (by rw [if_pos rfl]) hL
         refine ⟨.slice (some ⟨L.blk, L.base + 0, none⟩) (sl + n) c', w.setCells L.blk (L.base + sl * i.size) us, .inl (II ho ?_), (fun j => if j = nx then some L else σ j), .slo (L := L) (by rw [if_pos rfl]) hcap hroom' .nil, ?_⟩
         ·rw [hsx]; exact hroom
         ·rw [hget]
          have hfun : (fun j => if j = nx then some (Bl.cells el (sl * i.size + news.length) 0 (stN news c (sl * i.size))) else if j = id then none else h.get j) = (fun j => if j = nx then some (Bl.cells el (sl * i.size + news.length) 0 (stN news c (sl * i.size))) else if j = id then none else if j = id then some (Bl.cells el (sl * i.size + news.length) 0 (stN news c (sl * i.size))) else h.get j) := by
           funext j
           by_cases e1 : j = nx
           ·rw [if_pos e1, if_pos e1]
           ·rw [if_neg e1, if_neg e1]
            by_cases e2 : j = id
            ·rw [if_pos e2, if_pos e2]
            ·rw [if_neg e2, if_neg e2, if_neg e2]
          rw [hfun]
          exact t1.trans t2
       ·cases hm
     ·cases hm
   ·cases hm
  ·cases hm
 ·cases hm
theorem lF (a b : ByteArray) : (a == b) = (a.data.toList == b.data.toList) := by
 obtain ⟨⟨d⟩⟩ := a; obtain ⟨⟨d'⟩⟩ := b
 have h1 : ((⟨⟨d⟩⟩ : ByteArray) == ⟨⟨d'⟩⟩) = ((⟨d⟩ : Array UInt8) == ⟨d'⟩) := rfl
 rw [h1]; simp
theorem R1 {k k' : Value} {b : Bool} (hk : WB k k' = some b) : cU k' = true ∧ (b = true → k = k') := by
 unfold WB at hk
 split at hk
 ·injection hk with hk
  refine ⟨rfl, fun hb => ?_⟩
  rename_i x y
  rw [hb, N2] at hk
  have : x.data.toList = y.data.toList := by simpa using hk
  obtain ⟨⟨d⟩⟩ := x; obtain ⟨⟨d'⟩⟩ := y
  simp only at this; subst this; rfl
 ·obtain ⟨h1, h2⟩ := BE hk (by simp)
  injection h2 with h2
  refine ⟨rfl, fun hb => ?_⟩
  rw [hb, UL] at h2
  rw [PI h1, eq_of_beq h2]
 ·injection hk with hk
  refine ⟨rfl, fun hb => ?_⟩
  rw [hb] at hk
  rw [eq_of_beq hk]
 ·cases hk
theorem T2 {kt : TypeId} {d : TypeDesc} {k k' : Value} {b : Bool} {el : TypeId} {t : TypeId} (hu : P.underlying t = some (.map kt el)) (hd : P.underlying kt = some d) (hk : KZ P t k = some el) (he : WB k k' = some b) : Instr.sameNow d k k' = some b := by
 unfold KZ at hk
 rw [hu] at hk
 simp only [hd] at hk
 unfold WB at he
 split at he
 ·injection he with he; subst he
  split at hk
  ·rename_i h2 h3; injection h2 with h2; subst h2
   simp only [Instr.sameNow, N2, lF]
  ·rename_i h2 h3; cases h3
  ·rename_i h2 h3; cases h3
  ·cases hk
 ·obtain ⟨h1, h2⟩ := BE he (by simp)
  injection h2 with h2; subst h2
  have := PI h1; subst this
  split at hk
  ·rename_i h3; cases h3
  ·rename_i h2 h3; injection h2 with h2; subst h2
   simp [Instr.sameNow, UL]
  ·rename_i h3; cases h3
  ·cases hk
 ·injection he with he; subst he
  split at hk
  ·rename_i h3; cases h3
  ·rename_i h3; cases h3
  ·rename_i h2 h3; injection h2 with h2; subst h2
   simp [Instr.sameNow]
  ·cases hk
 ·cases he
theorem QZ {t el : TypeId} {k : Value} (hk : KZ P t k = some el) : ∃ kt d, P.underlying t = some (.map kt el) ∧ P.underlying kt = some d ∧ cU k = true ∧ (∀ b w, (Instr.checkKey b 10000 kt k).run P w = .ok () w) := by
 unfold KZ at hk
 split at hk
 ·rename_i kt v' hu
  split at hk
  ·rename_i s hd
   injection hk with hk; subst hk
   refine ⟨kt, _, hu, hd, rfl, fun b w => ?_⟩
   show (Instr.checkKey b (9999 + 1) kt _).run P w = _
   unfold Instr.checkKey
   simp [run_underlying hd]
  ·rename_i s hd
   injection hk with hk; subst hk
   refine ⟨kt, _, hu, hd, rfl, fun b w => ?_⟩
   show (Instr.checkKey b (9999 + 1) kt _).run P w = _
   unfold Instr.checkKey
   simp [run_underlying hd]
  ·rename_i s hd
   injection hk with hk; subst hk
   refine ⟨kt, _, hu, hd, rfl, fun b w => ?_⟩
   show (Instr.checkKey b (9999 + 1) kt _).run P w = _
   unfold Instr.checkKey
   simp [run_underlying hd]
  ·cases hk
 ·cases hk
def sK (σ : Sg) (k : Value) (es : List MapEntry) (i : Nat) : Option (Nat × Value) → Option (Nat × Value) → Prop
 | none, none => True
 | some (j, v), some (j', u) => j = j' ∧ i ≤ j ∧ j - i < es.length ∧ VR σ v u ∧ (∃ en, es[j - i]? = some en ∧ en.key = k)
 | _, _ => False
theorem MU (d : TypeDesc) (k : Value) (en : MapEntry) (es : List MapEntry) (i : Nat) : Instr.findNow d k (en :: es) i = match Instr.sameNow d k en.key with | some true => some (some (i, en.val)) | some false => Instr.findNow d k es (i + 1) | none => none := rfl
theorem IE {σ : Sg} {kt el t : TypeId} {d : TypeDesc} {k : Value} (hu : P.underlying t = some (.map kt el)) (hd : P.underlying kt = some d) (hk : KZ P t k = some el) : ∀ (l : List (Value × Value)) (es : List MapEntry) (i : Nat) {r : Option (Nat × Value)},
 T9 k l i = some r → VRs σ (l.map (·.1)) (es.map (·.key)) → VRs σ (l.map (·.2)) (es.map (·.val)) → ∃ r', Instr.findNow d k es i = some r' ∧ sK σ k es i r r'
 | [], [], i, r, hf, _, _ => by injection hf with hf; subst hf; exact ⟨none, rfl, trivial⟩
 | [], _ :: _, i, r, hf, h1, _ => by cases h1
 | _ :: _, [], i, r, hf, h1, _ => by have := h1.len; simp at this
 | p :: l, en :: es, i, r, hf, h1, h2 => by
  obtain ⟨y, ys, e1, h3, h4⟩ := h1.inv
  injection e1 with e1 e2; subst e1; subst e2
  obtain ⟨z, zs, e1, h5, h6⟩ := h2.inv
  injection e1 with e1 e2; subst e1; subst e2
  unfold T9 at hf
  split at hf
  ·rename_i hq
   injection hf with hf; subst hf
   obtain ⟨hs, heq⟩ := R1 hq
   have hkey : en.key = p.1 := h3.scal_inv hs
   refine ⟨some (i, en.val), ?_, rfl, Nat.le_refl _, by simp, h5, en, by simp, by rw [hkey, heq rfl]⟩
   rw [MU, hkey, T2 hu hd hk hq]
  ·rename_i hq
   obtain ⟨hs, _⟩ := R1 hq
   have hkey : en.key = p.1 := h3.scal_inv hs
   obtain ⟨r', h7, h8⟩ := IE hu hd hk l es (i + 1) hf h4 h6
   refine ⟨r', ?_, ?_⟩
   ·rw [MU, hkey, T2 hu hd hk hq]
    exact h7
   ·cases r with
    | none => cases r' with
     | none => trivial
     | some _ => exact h8
    | some p => cases r' with
     | none => exact h8
     | some p' =>
      obtain ⟨j, v⟩ := p
      obtain ⟨j', u⟩ := p'
      obtain ⟨a1, a2, a3, a4, en', a5, a6⟩ := h8
      refine ⟨a1, by omega, by simp; omega, a4, en', ?_, a6⟩
      rw [show j - i = (j - (i + 1)) + 1 by omega]; simpa using a5
  ·cases hf
theorem GX {kt : TypeId} {d : TypeDesc} {k : Value} {es : List MapEntry} {r : Option (Nat × Value)} (hd : P.underlying kt = some d) (hf : Instr.findNow d k es 0 = some r) (w : World) : (Instr.findKey kt k es).run P w = .ok r w := by
 unfold Instr.findKey
 simp [run_underlying hd, hf]
theorem U9 {t : TypeId} {r : Option Operand} (ho : o.op = .makeMap t r) (hm : J4 P h nx t (r.map (evO G e)) = .ok v h' nx') : Good P G o e h nx v h' nx' := by
 have fin : ∀ (σ : Sg) (w : World), MR G σ h.get nx w → ∃ σ', VR σ' (.map (some nx)) (.map (some w.heap.size)) ∧ Tr G σ h.get nx w σ' (h.put nx (.map 0 [] [])).get (nx + 1) (w.alloc (.map #[] 0)) := fun σ w m => by
  have := m.new (w' := w.alloc (.map #[] 0)) ⟨w.heap.size, 0, 0⟩ (.map 0 [] []) rfl ⟨rfl, rfl, rfl⟩ (by simp) (fun r hr => Below.heap_alloc w _ r hr) (fun σ' hs => ⟨#[], heap_alloc_new w _, .nil, .nil, rfl⟩)
  rw [Tb.put_fun]
  exact ⟨_, .map (L := ⟨w.heap.size, 0, 0⟩) (by simp) .nil, this⟩
 unfold J4 at hm
 split at hm
 ·rename_i hr
  obtain ⟨rfl, rfl, rfl⟩ := E4 hm
  obtain rfl := map_nil hr
  intro σ w ρ oe m
  obtain ⟨σ', h1, h2⟩ := fin σ w m
  refine ⟨_, _, .inl ?_, σ', h1, h2⟩
  unfold execOp
  simp [ho, Instr.makeMap]
 ·rename_i k n hr
  split at hm
  ·rename_i kt el hu
   obtain ⟨rfl, rfl, rfl⟩ := E4 hm
   intro σ w ρ oe m
   obtain ⟨σ', h1, h2⟩ := fin σ w m
   cases r with
   | none => cases hr
   | some x =>
    simp only [Option.map_some, Option.some.injEq] at hr
    have hx := (oe x _ hr).scal_inv rfl
    refine ⟨_, _, .inl ?_, σ', h1, h2⟩
    unfold execOp
    simp [ho, hx, Instr.makeMap, run_underlying hu, asInt, asIntOf]
  ·cases hm
 ·cases hm
theorem aE {σ : Sg} {w : World} {r : Option Nat} {l : List (Value × Value)} {u : Value} (m : MR G σ h.get nx w) (hl : rA h r = some l) (hu : VR σ (.map r) u) :
 ∃ (es : List MapEntry), VRs σ (l.map (·.1)) (es.map (·.key)) ∧ VRs σ (l.map (·.2)) (es.map (·.val)) ∧
  ((u = .map none ∧ es = []) ∨ ∃ (L : Loc) (clock : Nat), r.isSome = true ∧ u = .map (some L.blk) ∧ w.heap[L.blk]? = some (.map es.toArray clock)) := by
 cases r with
 | none =>
  injection hl with hl; subst hl
  exact ⟨[], .nil, .nil, .inl ⟨hu.scal_inv rfl, rfl⟩⟩
 | some id =>
  unfold rA at hl
  simp only at hl
  split at hl
  ·rename_i clock bs l' hb
   injection hl with hl; subst hl
   obtain ⟨L, hL, rfl⟩ := hu.map_inv
   obtain ⟨L', hL', es, h2, h3, h4, h5⟩ := m.blk id _ hb
   rw [hL] at hL'; injection hL' with hL'; subst hL'
   exact ⟨es.toList, h3, h4, .inr ⟨L, clock, rfl, rfl, by simpa using h2⟩⟩
  ·cases hl
theorem W9 {t : TypeId} {x k : Operand} {ok : Bool} (ho : o.op = .lookup t x k ok) (hm : KL P h nx t ok (evO G e x) (evO G e k) = .ok v h' nx') : Good P G o e h nx v h' nx' := by
 unfold KL at hm
 split at hm
 ·rename_i r kv h1 h2
  split at hm
  ·rename_i el l hkt hl
   obtain ⟨kt, d, hu, hd, hsc, hck⟩ := QZ hkt
   have fin : ∀ (σ : Sg) (w : World) (ρ : Operand → Value) (es : List MapEntry) (r' : Option (Nat × Value)) (res : Value) (b : Bool), ρ k = kv → ((ρ x = .map none ∧ es = []) ∨ ∃ (L : Loc) (clock : Nat), r.isSome = true ∧ ρ x = .map (some L.blk) ∧ w.heap[L.blk]? = some (.map es.toArray clock)) →
    Instr.findNow d kv es 0 = some r' → (match r' with | some (_, v) => res = v ∧ b = true | none => (∃ i, P.info? el = some i ∧ i.zero = some res) ∧ b = false) → (execOp ρ o).run P w = .ok (.value (if ok then .tuple #[res, .bool b] else res)) w := by
    intro σ w ρ es r' res b hkv hx hf hr
    have hfk := GX (P := P) hd hf w
    have hlk : (Instr.lookup t (ρ x) (ρ k) ok).run P w = .ok (if ok then .tuple #[res, .bool b] else res) w := by
     rw [hkv]
     unfold Instr.lookup
     simp only [Sem.run_bind, run_underlying hu, Result.andThen_ok]
     rcases hx with ⟨hx, rfl⟩ | ⟨L, clock, _, hx, hb⟩
     ·rw [hx]
      simp only [Sem.run_bind, Sem.run_pure, Result.andThen_ok, hck, hfk]
      cases r' with
      | none =>
       obtain ⟨⟨i, hi, hz⟩, rfl⟩ := hr
       simp [zeroValue, typeInfo, hi, hz]
      | some p => obtain ⟨j, u⟩ := p; obtain ⟨rfl, rfl⟩ := hr; simp
     ·rw [hx]
      simp only [Sem.run_bind, Sem.run_pure, Result.andThen_ok, ET hb, hck, hfk]
      cases r' with
      | none =>
       obtain ⟨⟨i, hi, hz⟩, rfl⟩ := hr
       simp [zeroValue, typeInfo, hi, hz]
      | some p => obtain ⟨j, u⟩ := p; obtain ⟨rfl, rfl⟩ := hr; simp
    unfold execOp
    simp only [ho, Sem.run_bind, hlk, Result.andThen_ok]
    rfl
   have tup : ∀ (σ : Sg) (a u : Value) (b : Bool), VR σ a u → VR σ (bo ok (.tuple ⟨[a, .bool b]⟩) a) (if ok then .tuple #[u, .bool b] else u) := fun σ a u b hv => by
    cases ok with
    | true => exact .tuple (xs := [a, .bool b]) (ys := [u, .bool b]) (.cons hv VR.bool) .nil
    | false => exact hv
   split at hm
   ·rename_i j a hf
    obtain ⟨rfl, rfl, rfl⟩ := BF hm
    refine BC fun σ w ρ oe m => ?_
    obtain ⟨es, h3, h4, h5⟩ := aE m hl (oe x _ h1)
    obtain ⟨r', h6, h7⟩ := IE hu hd hkt l es 0 hf h3 h4
    cases r' with
    | none => exact h7.elim
    | some p =>
     obtain ⟨j', u⟩ := p
     obtain ⟨_, _, _, hv, _⟩ := h7
     exact ⟨_, tup σ a u true hv, fin σ w ρ es _ u true ((oe k _ h2).scal_inv hsc) h5 h6 ⟨rfl, rfl⟩⟩
   ·rename_i hf
    split at hm
    ·rename_i z hz
     obtain ⟨rfl, rfl, rfl⟩ := BF hm
     refine BC fun σ w ρ oe m => ?_
     obtain ⟨es, h3, h4, h5⟩ := aE m hl (oe x _ h1)
     obtain ⟨r', h6, h7⟩ := IE hu hd hkt l es 0 hf h3 h4
     cases r' with
     | some p => exact h7.elim
     | none =>
      obtain ⟨i, hi, hiz, hfl⟩ := CP hz
      exact ⟨_, tup σ z z false (VR.of_flat hfl), fin σ w ρ es _ z false ((oe k _ h2).scal_inv hsc) h5 h6 ⟨⟨i, hi, hiz⟩, rfl⟩⟩
    ·cases hm
   ·cases hm
  ·cases hm
 ·cases hm
theorem VRs.set {σ : Sg} : ∀ {us vs : List Value} (i : Nat) {a b : Value}, VRs σ us vs → VR σ a b → VRs σ (us.set i a) (vs.set i b)
 | [], vs, i, a, b, h1, _ => by rw [h1.inv_nil]; simp; exact .nil
 | x :: us, vs, i, a, b, h1, h2 => by
  obtain ⟨y, vs', rfl, h3, h4⟩ := h1.inv
  cases i with
  | zero => exact .cons h2 h4
  | succ i => exact .cons h3 (h4.set i h2)
theorem R0 {t el : TypeId} {k : Value} (n : Nat) (hk : KZ P t k = some el) : Instr.sameBits n k k = true := by
 have hs : ∀ s : ByteArray, (s == s) = true := fun s => by rw [lF]; simp
 unfold KZ at hk
 split at hk
 ·split at hk
  ·rename_i s _; simp [Instr.sameBits, hs]
  ·simp [Instr.sameBits]
  ·simp [Instr.sameBits]
  ·cases hk
 ·cases hk
theorem OC {t : TypeId} {mp k x : Operand} (ho : o.op = .mapUpdate t mp k x ∨ o.op = .insert t mp k x) (hm : KJ P h nx t (evO G e mp) (evO G e k) (evO G e x) = .ok v h' nx') : Good P G o e h nx v h' nx' := by
 unfold KJ at hm
 simp only [F2, J7, DN] at hm
 split at hm
 ·rename_i id kv xv h1 h2 h3
  split at hm
  ·rename_i el clock bs l hkt hb
   obtain ⟨kt, d, hu, hd, hsc, hck⟩ := QZ hkt
   have fin : ∀ (σ : Sg) (w : World) (ρ : Operand → Value) (L : Loc) (es : Array MapEntry) (es' : Array MapEntry) (clock' : Nat) (bs' : List Nat) (l' : List (Value × Value)), MR G σ h.get nx w → σ id = some L → w.heap[L.blk]? = some (.map es clock) →
    (Instr.mapUpdate t (.map (some L.blk)) kv (ρ x)).run P w = .ok () { w with heap := w.heap.setIfInBounds L.blk (.map es' clock') } → ρ mp = .map (some L.blk) → ρ k = kv → VRs σ (l'.map (·.1)) (es'.toList.map (·.key)) → VRs σ (l'.map (·.2)) (es'.toList.map (·.val)) → es'.toList.map (·.born) = bs' →
    G8 P ρ o w fun u w' => ∃ σ', VR σ' undef u ∧ Tr G σ h.get nx w σ' (h.put id (.map clock' bs' l')).get nx w' := by
    intro σ w ρ L es es' clock' bs' l' m hL hbk hrun hmp hkv hk1 hk2 hk3
    refine ⟨undef, { w with heap := w.heap.setIfInBounds L.blk (.map es' clock') }, .inr ⟨?_, rfl⟩, σ, VR.undef, ?_⟩
    ·unfold execOp
     rcases ho with ho | ho <;> simp only [ho, hmp, hkv, Sem.run_bind, hrun, Result.andThen_ok] <;> rfl
    ·rw [Tb.put_fun]
     have hlt : L.blk < w.heap.size := (Array.getElem?_eq_some_iff.1 hbk).1
     exact m.upd hb hL ⟨es', by simp [hlt], hk1, hk2, hk3⟩ ⟨rfl, rfl, rfl⟩ (by simp) (fun r hr => by simp [Array.getElem?_setIfInBounds_ne (Ne.symm hr)])
   split at hm
   ·rename_i j a hf
    obtain ⟨rfl, rfl, rfl⟩ := BF hm
    intro σ w ρ oe m
    obtain ⟨L, hL, hmp⟩ := (oe mp _ h1).map_inv
    obtain ⟨L', hL', es, hbk, h4, h5, h5b⟩ := m.blk id _ hb
    rw [hL] at hL'; injection hL' with hL'; subst hL'
    obtain ⟨r', h6, h7⟩ := IE hu hd hkt l es.toList 0 hf h4 h5
    cases r' with
    | none => exact h7.elim
    | some p =>
     obtain ⟨j', u⟩ := p
     obtain ⟨rfl, _, hjl, hv, en, hen, hkey⟩ := h7
     rw [Nat.sub_zero] at hen hjl
     have hkv := (oe k _ h2).scal_inv hsc
     refine fin σ w ρ L es (es.modify j fun e => { e with key := kv, val := ρ x }) clock bs (l.set j (kv, xv)) m hL hbk ?_ hmp hkv ?_ ?_ ?_
     ·have hfk := GX (P := P) hd h6 w
      have hold : ((es[j]?).map (·.key)).getD kv = kv := by
       have : es[j]? = some en := by simpa using hen
       rw [this]; exact hkey
      unfold Instr.mapUpdate
      simp only [Sem.run_bind, run_underlying hu, Result.andThen_ok, ET hbk, hck, hfk, hold, Instr.keyThatStays, R0 10000 hkt, if_true, Sem.run_pure]
      unfold setObj
      simp only [Sem.run, hbk]
     ·rw [List.map_set]
      have : ((es.modify j fun e => { e with key := kv, val := ρ x }).toList.map (·.key)) = (es.toList.map (·.key)).set j kv := by
       apply List.ext_getElem?
       intro i
       rw [Array.toList_modify, List.getElem?_map, List.getElem?_modify, List.getElem?_set, List.getElem?_map]
       by_cases hij : j = i
       ·subst hij; simp [hen]
        simpa using hjl
       ·simp [hij]
      rw [this]
      exact h4.set j (by have := oe k _ h2; rw [hkv] at this; exact this)
     ·rw [List.map_set]
      have : ((es.modify j fun e => { e with key := kv, val := ρ x }).toList.map (·.val)) = (es.toList.map (·.val)).set j (ρ x) := by
       apply List.ext_getElem?
       intro i
       rw [Array.toList_modify, List.getElem?_map, List.getElem?_modify, List.getElem?_set, List.getElem?_map]
       by_cases hij : j = i
       ·subst hij; simp [hen]
        simpa using hjl
       ·simp [hij]
      rw [this]
      exact h5.set j (oe x _ h3)
     ·rw [← h5b]
      apply List.ext_getElem?
      intro i
      rw [Array.toList_modify, List.getElem?_map, List.getElem?_modify, List.getElem?_map]
      by_cases hij : j = i
      ·subst hij; simp [hen]
      ·simp [hij]
   ·rename_i hf
    obtain ⟨rfl, rfl, rfl⟩ := BF hm
    intro σ w ρ oe m
    obtain ⟨L, hL, hmp⟩ := (oe mp _ h1).map_inv
    obtain ⟨L', hL', es, hbk, h4, h5, h5b⟩ := m.blk id _ hb
    rw [hL] at hL'; injection hL' with hL'; subst hL'
    obtain ⟨r', h6, h7⟩ := IE hu hd hkt l es.toList 0 hf h4 h5
    cases r' with
    | some p => exact h7.elim
    | none =>
     have hkv := (oe k _ h2).scal_inv hsc
     refine fin σ w ρ L es (es.push { key := kv, val := ρ x, born := clock }) (clock + 1) (bs ++ [clock]) (l ++ [(kv, xv)]) m hL hbk ?_ hmp hkv ?_ ?_ ?_
     ·have hfk := GX (P := P) hd h6 w
      unfold Instr.mapUpdate
      simp only [Sem.run_bind, run_underlying hu, Result.andThen_ok, ET hbk, hck, hfk]
      unfold setObj
      simp only [Sem.run, hbk]
     ·rw [List.map_append, Array.toList_push, List.map_append]
      exact h4.append (by have := oe k _ h2; rw [hkv] at this; exact this)
     ·rw [List.map_append, Array.toList_push, List.map_append]
      exact h5.append (oe x _ h3)
     ·rw [← h5b]; simp
   ·cases hm
  ·cases hm
 ·cases hm
theorem nU {σ : Sg} {id : Nat} {L : Loc} (h : σ id = some L) (hb : L.base = 0) : VR σ (.pointer (some ⟨id, 0, none⟩)) (.pointer (some ⟨L.blk, 0, none⟩)) := by
 have := VRs.ptr (off := 0) h (VRs.nil (σ := σ))
 rw [hb] at this; exact this
theorem XZ {t : TypeId} {x : Operand} (ho : o.op = .range t x) (hm : UC P h nx t (evO G e x) = .ok v h' nx') : Good P G o e h nx v h' nx' := by
 have fin : ∀ (σ : Sg) (w : World) (ob : Obj) (B : Bl), MR G σ h.get nx w → (∀ σ' : Sg, σ.le σ' → BR σ' ⟨w.heap.size, 0, 0⟩ (w.alloc ob) B) → ∃ σ', VR σ' (.pointer (some ⟨nx, 0, none⟩)) (.pointer (some ⟨w.heap.size, 0, none⟩)) ∧ Tr G σ h.get nx w σ' (h.put nx B).get (nx + 1) (w.alloc ob) := fun σ w ob B m hbr => by
  have := m.new (w' := w.alloc ob) ⟨w.heap.size, 0, 0⟩ B rfl ⟨rfl, rfl, rfl⟩ (by simp) (fun r hr => Below.heap_alloc w _ r hr) hbr
  rw [Tb.put_fun]
  exact ⟨_, nU (L := ⟨w.heap.size, 0, 0⟩) (by simp) rfl, this⟩
 unfold UC at hm
 split at hm
 ·rename_i s h1
  split at hm
  ·rename_i hu
   obtain ⟨rfl, rfl, rfl⟩ := E4 hm
   intro σ w ρ oe m
   have hx := (oe x _ h1).scal_inv rfl
   obtain ⟨σ', h2, h3⟩ := fin σ w (.stringIter s 0) (.iter s 0) m (fun σ' _ => ⟨rfl, heap_alloc_new w _⟩)
   refine ⟨_, _, .inl ?_, σ', h2, h3⟩
   unfold execOp
   simp [ho, hx, Instr.range, run_underlying hu]
  ·cases hm
 ·rename_i h1
  split at hm
  ·rename_i k el hu
   obtain ⟨rfl, rfl, rfl⟩ := E4 hm
   intro σ w ρ oe m
   have hx := (oe x _ h1).scal_inv rfl
   obtain ⟨σ', h2, h3⟩ := fin σ w (.mapIter none 0 #[] 0) (.miter none 0 [] 0) m (fun σ' _ => ⟨rfl, none, fun id h => (by cases h), fun _ => rfl, heap_alloc_new w _⟩)
   refine ⟨_, _, .inl ?_, σ', h2, h3⟩
   unfold execOp
   simp [ho, hx, Instr.range, run_underlying hu]
  ·cases hm
 ·rename_i id h1
  split at hm
  ·rename_i k el cl bs l hu hb
   obtain ⟨rfl, rfl, rfl⟩ := E4 hm
   intro σ w ρ oe m
   obtain ⟨L, hL, hx⟩ := (oe x _ h1).map_inv
   obtain ⟨L', hL', es, hbk, _⟩ := m.blk id _ hb
   rw [hL] at hL'; injection hL' with hL'; subst hL'
   obtain ⟨σ', h2, h3⟩ := fin σ w (.mapIter (some L.blk) cl #[] cl) (.miter (some id) cl [] cl) m (fun σ' hs => ⟨rfl, some L.blk, fun id' h => (by injection h with h; subst h; exact ⟨L, hs _ _ hL, rfl⟩), fun h => (by cases h), heap_alloc_new w _⟩)
   refine ⟨_, _, .inl ?_, σ', h2, h3⟩
   have hg := ET (P := P) hbk
   unfold execOp
   simp [ho, hx, Instr.range, run_underlying hu, hg]
  ·cases hm
 ·cases hm
theorem QV {σ : Sg} {seen : List Nat} : ∀ (bs : List Nat) (l : List (Value × Value)) (es : List MapEntry), VRs σ (l.map (·.1)) (es.map (·.key)) → VRs σ (l.map (·.2)) (es.map (·.val)) → es.map (·.born) = bs →
 ∃ es', es.filter (fun e => !seen.contains e.born) = es' ∧ VRs σ ((QW seen bs l).map (·.2.1)) (es'.map (·.key)) ∧ VRs σ ((QW seen bs l).map (·.2.2)) (es'.map (·.val)) ∧ es'.map (·.born) = (QW seen bs l).map (·.1)
 | bs, [], es, h1, _, h3 => by
  have : es = [] := List.eq_nil_of_length_eq_zero (by have := h1.len; simpa using this.symm)
  subst this
  cases bs with
  | nil => exact ⟨[], rfl, .nil, .nil, rfl⟩
  | cons b bs => cases h3
 | bs, p :: l, [], h1, _, _ => by have := h1.len; simp at this
 | [], p :: l, en :: es, _, _, h3 => by cases h3
 | b :: bs, p :: l, en :: es, h1, h2, h3 => by
  simp only [List.map_cons, List.cons.injEq] at h3
  obtain ⟨y, ys, e1, h4, h5⟩ := h1.inv
  injection e1 with e1 e2; subst e1; subst e2
  obtain ⟨z, zs, e1, h6, h7⟩ := h2.inv
  injection e1 with e1 e2; subst e1; subst e2
  obtain ⟨es', h8, h9, h10, h11⟩ := QV (seen := seen) bs l es h5 h7 h3.2
  unfold QW
  rw [List.filter_cons, h3.1, h8]
  cases hc : seen.contains b with
  | true => rw [CG]; exact ⟨es', by simp, h9, h10, h11⟩
  | false =>
   rw [BV]
   exact ⟨en :: es', by simp, .cons h4 h9, .cons h6 h10, by simp [h3.1, h11]⟩
theorem dI {x : Operand} {b : Bool} (ho : o.op = .next x b) (hm : aH h nx b (evO G e x) = .ok v h' nx') : Good P G o e h nx v h' nx' := by
 unfold aH at hm
 simp only [F2, J7, DN] at hm
 split at hm
 ·rename_i id h1
  split at hm
  ·rename_i s pos hb
   obtain ⟨hbt, hm⟩ := BE hm (by simp)
   subst hbt
   have key : ∀ (σ : Sg) (w : World) (ρ : Operand → Value), OE σ G e ρ → MR G σ h.get nx w → ∃ L, σ id = some L ∧ ρ x = .pointer (some ⟨L.blk, 0, none⟩) ∧ w.heap[L.blk]? = some (.stringIter s pos) ∧ L.base = 0 := fun σ w ρ oe m => by
    obtain ⟨L, hL, hx⟩ := (oe x _ h1).ptr_inv
    obtain ⟨L', hL', hb0, hbk⟩ := m.blk id _ hb
    rw [hL] at hL'; injection hL' with hL'; subst hL'
    exact ⟨L, hL, by rw [hx, hb0], hbk, hb0⟩
   have hsz : s.size = s.data.toList.length := by obtain ⟨d⟩ := s; rfl
   cases hlt : Nat.blt pos s.data.toList.length with
   | true =>
    rw [hlt, CG] at hm
    obtain ⟨rfl, rfl, rfl⟩ := BF hm
    have hlt := AZ hlt
    rw [← hsz] at hlt
    intro σ w ρ oe m
    obtain ⟨L, hL, hx, hbk, hb0⟩ := key σ w ρ oe m
    have hl : L.blk < w.heap.size := (Array.getElem?_eq_some_iff.1 hbk).1
    refine ⟨.tuple #[.bool true, goInt pos, .int .i32 (Utf8.decode s pos).1], { w with heap := w.heap.setIfInBounds L.blk (.stringIter s (pos + (Utf8.decode s pos).2)) }, .inl ?_, σ, ?_, ?_⟩
    ·unfold execOp
     simp only [ho, hx, Instr.next, getObj, setObj, Sem.run_bind, Sem.run, hbk, Result.andThen_ok, hlt, if_true]
     rfl
    ·exact .tuple (xs := [_, _, _]) (ys := [_, _, _]) (.cons VR.bool (.cons VR.int (.cons VR.int .nil))) .nil
    ·rw [Tb.put_fun]
     exact m.upd hb hL ⟨hb0, by simp [hl]⟩ ⟨rfl, rfl, rfl⟩ (by simp) (fun r hr => by simp [Array.getElem?_setIfInBounds_ne (Ne.symm hr)])
   | false =>
    rw [hlt, BV] at hm
    obtain ⟨rfl, rfl, rfl⟩ := BF hm
    have hlt : ¬ pos < s.size := fun hh => by
     rw [hsz] at hh
     have : Nat.blt pos s.data.toList.length = true := by rw [PM]; simpa using hh
     rw [this] at hlt; cases hlt
    refine BC fun σ w ρ oe m => ?_
    obtain ⟨L, hL, hx, hbk, hb0⟩ := key σ w ρ oe m
    refine ⟨.tuple #[.bool false], .tuple (xs := [_]) (ys := [_]) VR.bool .nil, ?_⟩
    unfold execOp
    simp only [ho, hx, Instr.next, getObj, Sem.run_bind, Sem.run, hbk, Result.andThen_ok, hlt, if_false]
    rfl
  ·rename_i since seen last hb
   cases b with
   | true => cases hm
   | false =>
    rw [BV] at hm
    obtain ⟨rfl, rfl, rfl⟩ := BF hm
    refine BC fun σ w ρ oe m => ?_
    obtain ⟨L, hL, hx⟩ := (oe x _ h1).ptr_inv
    obtain ⟨L', hL', hb0, r, _, hr, hbk⟩ := m.blk id _ hb
    rw [hL] at hL'; injection hL' with hL'; subst hL'
    rw [hb0] at hx
    rw [hr rfl] at hbk
    refine ⟨.tuple #[.bool false], .tuple (xs := [_]) (ys := [_]) VR.bool .nil, ?_⟩
    unfold execOp
    simp only [ho, hx, Instr.next, getObj, Sem.run_bind, Sem.run, hbk, Result.andThen_ok]
    rfl
  ·rename_i mid since seen last hb
   cases b with
   | true => cases hm
   | false =>
    rw [BV] at hm
    split at hm
    ·rename_i cl bs l hmb
     cases hall : (!seen.isEmpty && (!bs.isEmpty && bs.all (fun b => Nat.ble last b))) with
     | true => rw [hall] at hm; cases hm
     | false =>
      rw [hall, BV] at hm
      have key : ∀ (σ : Sg) (w : World) (ρ : Operand → Value), OE σ G e ρ → MR G σ h.get nx w → ∃ (L L2 : Loc) (es : Array MapEntry), σ id = some L ∧ σ mid = some L2 ∧ ρ x = .pointer (some ⟨L.blk, 0, none⟩) ∧ w.heap[L.blk]? = some (.mapIter (some L2.blk) since ⟨seen⟩ last) ∧ L.base = 0 ∧ w.heap[L2.blk]? = some (.map es cl) ∧
       VRs σ (l.map (·.1)) (es.toList.map (·.key)) ∧ VRs σ (l.map (·.2)) (es.toList.map (·.val)) ∧ es.toList.map (·.born) = bs ∧ (!(⟨seen⟩ : Array Nat).isEmpty && !es.isEmpty && es.all (fun e => decide (e.born ≥ last))) = false := fun σ w ρ oe m => by
       obtain ⟨L, hL, hx⟩ := (oe x _ h1).ptr_inv
       obtain ⟨L', hL', hb0, r, hr, _, hbk⟩ := m.blk id _ hb
       rw [hL] at hL'; injection hL' with hL'; subst hL'
       obtain ⟨L2, hL2, rfl⟩ := hr mid rfl
       obtain ⟨L3, hL3, es, hbk2, k1, k2, k3⟩ := m.blk mid _ hmb
       rw [hL2] at hL3; injection hL3 with hL3; subst hL3
       refine ⟨L, L2, es, hL, hL2, by rw [hx, hb0], hbk, hb0, hbk2, k1, k2, k3, ?_⟩
       subst k3
       obtain ⟨el⟩ := es
       rw [← hall]
       have e1 : (⟨seen⟩ : Array Nat).isEmpty = seen.isEmpty := by cases seen <;> rfl
       have e2 : (⟨el⟩ : Array MapEntry).isEmpty = (el.map (·.born)).isEmpty := by cases el <;> rfl
       have e3 : (⟨el⟩ : Array MapEntry).all (fun e => decide (e.born ≥ last)) = (el.map (·.born)).all (fun b => Nat.ble last b) := by
        rw [← Array.all_toList, List.all_map]
        congr 1
        funext en
        show decide (last ≤ en.born) = Nat.ble last en.born
        cases hq : Nat.ble last en.born with
        | true => have := Nat.le_of_ble_eq_true hq; simp [this]
        | false => have : ¬ last ≤ en.born := fun hh => by rw [Nat.ble_eq_true_of_le hh] at hq; cases hq
                   simp [this]
       rw [e1, e2, e3, Bool.and_assoc]
      split at hm
      ·rename_i hleft
       obtain ⟨rfl, rfl, rfl⟩ := BF hm
       refine BC fun σ w ρ oe m => ?_
       obtain ⟨L, L2, es, hL, hL2, hx, hbk, hb0, hbk2, k1, k2, k3, k4⟩ := key σ w ρ oe m
       obtain ⟨es', g1, g2, g3, g4⟩ := QV (seen := seen) bs l es.toList k1 k2 k3
       rw [hleft] at g4
       have hes : es' = [] := by simpa using g4
       have hfil : es.filter (fun e => !(⟨seen⟩ : Array Nat).contains e.born) = #[] := by
        apply Array.ext'
        rw [Array.toList_filter]
        have : (es.toList.filter fun e => !(⟨seen⟩ : Array Nat).contains e.born) = es.toList.filter (fun e => !seen.contains e.born) := by simp
        rw [this, g1, hes]
       refine ⟨.tuple #[.bool false], .tuple (xs := [_]) (ys := [_]) VR.bool .nil, ?_⟩
       unfold execOp
       simp only [ho, hx, Instr.next, getObj, Sem.run_bind, Sem.run, hbk, hbk2, Result.andThen_ok, k4, Bool.false_eq_true, if_false, hfil]
       simp [Question.forced]
      ·rename_i bb kk vv hleft
       obtain ⟨hlt, hm⟩ := BE hm (by simp)
       have hlt := AZ hlt
       obtain ⟨rfl, rfl, rfl⟩ := BF hm
       intro σ w ρ oe m
       obtain ⟨L, L2, es, hL, hL2, hx, hbk, hb0, hbk2, k1, k2, k3, k4⟩ := key σ w ρ oe m
       obtain ⟨es', g1, g2, g3, g4⟩ := QV (seen := seen) bs l es.toList k1 k2 k3
       rw [hleft] at g2 g3 g4
       obtain ⟨en, hes⟩ : ∃ en, es' = [en] := by
        cases es' with
        | nil => simp at g4
        | cons en es' => cases es' with
         | nil => exact ⟨en, rfl⟩
         | cons => simp at g4
       subst hes
       have hborn : en.born = bb := by simpa using g4
       have hfil : es.filter (fun e => !(⟨seen⟩ : Array Nat).contains e.born) = #[en] := by
        apply Array.ext'
        rw [Array.toList_filter]
        have : (es.toList.filter fun e => !(⟨seen⟩ : Array Nat).contains e.born) = es.toList.filter (fun e => !seen.contains e.born) := by simp
        rw [this, g1]
       have hl : L.blk < w.heap.size := (Array.getElem?_eq_some_iff.1 hbk).1
       refine ⟨.tuple #[.bool true, en.key, en.val], { w with heap := w.heap.setIfInBounds L.blk (.mapIter (some L2.blk) since ⟨seen ++ [bb]⟩ cl) }, .inl ?_, σ, ?_, ?_⟩
       ·unfold execOp
        simp only [ho, hx, Instr.next, getObj, Sem.run_bind, Sem.run, hbk, hbk2, Result.andThen_ok, k4, Bool.false_eq_true, if_false, hfil]
        simp [Question.forced, hborn, hlt, setObj, Sem.run, hbk]
       ·exact .tuple (xs := [_, _, _]) (ys := [_, _, _]) (.cons VR.bool (g2.append g3)) .nil
       ·rw [Tb.put_fun]
        exact m.upd hb hL ⟨hb0, some L2.blk, fun i hi => by injection hi with hi; subst hi; exact ⟨L2, hL2, rfl⟩, fun hi => (by cases hi), by simp [hl]⟩ ⟨rfl, rfl, rfl⟩ (by simp) (fun r hr => by simp [Array.getElem?_setIfInBounds_ne (Ne.symm hr)])
      ·cases hm
    ·cases hm
  ·cases hm
 ·cases hm
end
end
end Go.Proofs.YtadgfojhjnkliaaGreatDoor
