/- UTF-8 by Go's tables is UTF-8 by the ranges. No program in sight. No condition. -/
import Derived.Test.YtklciidffdnglaaDoorUtfPlain
import Derived.Lib.ValidLaws
namespace Go.Proofs.YtklciidffdnglaaDoor
open Go.Lib

theorem check_ulen (a : UInt8) (r : List UInt8) (h : 128 ≤ a.toNat) :
    checkN (a :: r).length ((a :: r).getD 1 0).toNat ((a :: r).getD 2 0).toNat ((a :: r).getD 3 0).toNat (firstT a.toNat % 8) (accLo (firstT a.toNat / 16)) (accHi (firstT a.toNat / 16)) = if ulen (a :: r) = 0 then none else some (ulen (a :: r)) := by
  have ha := a.toNat_lt
  by_cases c0 : a.toNat < 194
  · have hu : ulen (a :: r) = 0 := by rw [ulen_cons, ulenC, if_neg (by omega), if_pos c0]
    rw [hu, if_pos rfl]
    simp [firstT, checkN, show ¬ a.toNat < 128 by omega, c0]
  have fin2 : ∀ x lo hi, firstT a.toNat = x → x % 8 = 2 → accLo (x / 16) = lo → accHi (x / 16) = hi → lo = lo2 a → hi = hi2 a → checkN (a :: r).length ((a :: r).getD 1 0).toNat ((a :: r).getD 2 0).toNat ((a :: r).getD 3 0).toNat (firstT a.toNat % 8) (accLo (firstT a.toNat / 16)) (accHi (firstT a.toNat / 16)) = if u2 a r = 0 then none else some (u2 a r) := by
    intro x lo hi e1 e2 e3 e4 e5 e6
    rw [e1, e2, e3, e4]
    unfold checkN
    rw [if_pos rfl]
    match r with
    | [] => simp [u2]
    | b :: r =>
      have : mid a b = decide (lo ≤ b.toNat ∧ b.toNat ≤ hi) := by rw [e5, e6]; simp [mid]
      rw [u2, this]
      by_cases hb : lo ≤ b.toNat ∧ b.toNat ≤ hi
      · simp [hb]
      · simp only [hb]; simp <;> omega
  have fin3 : ∀ x lo hi, firstT a.toNat = x → x % 8 = 3 → accLo (x / 16) = lo → accHi (x / 16) = hi → lo = lo2 a → hi = hi2 a → checkN (a :: r).length ((a :: r).getD 1 0).toNat ((a :: r).getD 2 0).toNat ((a :: r).getD 3 0).toNat (firstT a.toNat % 8) (accLo (firstT a.toNat / 16)) (accHi (firstT a.toNat / 16)) = if u3 a r = 0 then none else some (u3 a r) := by
    intro x lo hi e1 e2 e3 e4 e5 e6
    rw [e1, e2, e3, e4]
    unfold checkN
    rw [if_neg (by omega), if_pos rfl]
    match r with
    | [] => simp [u3]
    | [b] => simp [u3]
    | b :: c :: r =>
      have : (mid a b && cont c) = decide (lo ≤ b.toNat ∧ b.toNat ≤ hi ∧ 128 ≤ c.toNat ∧ c.toNat ≤ 191) := by
        rw [e5, e6, Bool.eq_iff_iff]; unfold mid cont; constructor <;> intro h <;> simp at h ⊢ <;> omega
      rw [u3, this]
      by_cases hb : lo ≤ b.toNat ∧ b.toNat ≤ hi ∧ 128 ≤ c.toNat ∧ c.toNat ≤ 191
      · simp [hb]
      · simp only [hb]; simp <;> omega
  have fin4 : ∀ x lo hi, firstT a.toNat = x → x % 8 = 4 → accLo (x / 16) = lo → accHi (x / 16) = hi → lo = lo2 a → hi = hi2 a → checkN (a :: r).length ((a :: r).getD 1 0).toNat ((a :: r).getD 2 0).toNat ((a :: r).getD 3 0).toNat (firstT a.toNat % 8) (accLo (firstT a.toNat / 16)) (accHi (firstT a.toNat / 16)) = if u4 a r = 0 then none else some (u4 a r) := by
    intro x lo hi e1 e2 e3 e4 e5 e6
    rw [e1, e2, e3, e4]
    unfold checkN
    rw [if_neg (by omega), if_neg (by omega), if_pos rfl]
    match r with
    | [] => simp [u4]
    | [b] => simp [u4]
    | [b, c] => simp [u4]
    | b :: c :: d :: r =>
      have : (mid a b && cont c && cont d) = decide (lo ≤ b.toNat ∧ b.toNat ≤ hi ∧ 128 ≤ c.toNat ∧ c.toNat ≤ 191 ∧ 128 ≤ d.toNat ∧ d.toNat ≤ 191) := by
        rw [e5, e6, Bool.eq_iff_iff]; unfold mid cont; constructor <;> intro h <;> simp at h ⊢ <;> omega
      rw [u4, this]
      by_cases hb : lo ≤ b.toNat ∧ b.toNat ≤ hi ∧ 128 ≤ c.toNat ∧ c.toNat ≤ 191 ∧ 128 ≤ d.toNat ∧ d.toNat ≤ 191
      · simp [hb]
      · simp only [hb]; simp <;> omega
  by_cases c1 : a.toNat < 224
  · rw [show ulen (a :: r) = u2 a r by rw [ulen_cons, ulenC, if_neg (by omega), if_neg c0, if_pos c1]]
    exact fin2 2 128 191 (by simp [firstT, show ¬ a.toNat < 128 by omega, c0, c1]) rfl rfl rfl (by unfold lo2; rw [if_neg (by omega), if_neg (by omega)]) (by unfold hi2; rw [if_neg (by omega), if_neg (by omega)])
  by_cases c5 : a.toNat < 240
  · rw [show ulen (a :: r) = u3 a r by rw [ulen_cons, ulenC, if_neg (by omega), if_neg c0, if_neg c1, if_pos c5]]
    by_cases c2 : a.toNat = 224
    · exact fin3 19 160 191 (by rw [c2]; rfl) rfl rfl rfl (by unfold lo2; rw [if_pos c2]) (by unfold hi2; rw [if_neg (by omega), if_neg (by omega)])
    by_cases c4 : a.toNat = 237
    · exact fin3 35 128 159 (by rw [c4]; rfl) rfl rfl rfl (by unfold lo2; rw [if_neg (by omega), if_neg (by omega)]) (by unfold hi2; rw [if_pos c4])
    · refine fin3 3 128 191 ?_ rfl rfl rfl (by unfold lo2; rw [if_neg (by omega), if_neg (by omega)]) (by unfold hi2; rw [if_neg (by omega), if_neg (by omega)])
      by_cases c3 : a.toNat < 237
      · simp [firstT, show ¬ a.toNat < 128 by omega, c0, c1, c2, c3]
      · simp [firstT, show ¬ a.toNat < 128 by omega, c0, c1, c2, c3, c4, c5]
  by_cases c9 : a.toNat < 245
  · rw [show ulen (a :: r) = u4 a r by rw [ulen_cons, ulenC, if_neg (by omega), if_neg c0, if_neg c1, if_neg c5, if_pos c9]]
    by_cases c6 : a.toNat = 240
    · exact fin4 52 144 191 (by rw [c6]; rfl) rfl rfl rfl (by unfold lo2; rw [if_neg (by omega), if_pos c6]) (by unfold hi2; rw [if_neg (by omega), if_neg (by omega)])
    by_cases c8 : a.toNat = 244
    · exact fin4 68 128 143 (by rw [c8]; rfl) rfl rfl rfl (by unfold lo2; rw [if_neg (by omega), if_neg (by omega)]) (by unfold hi2; rw [if_neg (by omega), if_pos c8])
    · exact fin4 4 128 191 (by simp [firstT, show ¬ a.toNat < 128 by omega, c0, c1, show ¬ a.toNat = 224 by omega, show ¬ a.toNat < 237 by omega, show ¬ a.toNat = 237 by omega, c5, c6, show a.toNat < 244 by omega]) rfl rfl rfl (by unfold lo2; rw [if_neg (by omega), if_neg (by omega)]) (by unfold hi2; rw [if_neg (by omega), if_neg (by omega)])
  · rw [show ulen (a :: r) = 0 by rw [ulen_cons, ulenC, if_neg (by omega), if_neg c0, if_neg c1, if_neg c5, if_neg c9], if_pos rfl]
    simp [firstT, checkN, show ¬ a.toNat < 128 by omega, c0, c1, show ¬ a.toNat = 224 by omega, show ¬ a.toNat < 237 by omega, show ¬ a.toNat = 237 by omega, c5, show ¬ a.toNat = 240 by omega, show ¬ a.toNat < 244 by omega, show ¬ a.toNat = 244 by omega]
theorem utf_eq : ∀ (n : Nat) (l : List UInt8), l.length ≤ n → validD l = utf l
  | 0, l, h => by
    obtain rfl : l = [] := List.eq_nil_of_length_eq_zero (by omega)
    rfl
  | n + 1, [], _ => rfl
  | n + 1, a :: r, h => by
    rw [List.length_cons] at h
    by_cases c : a.toNat < 128
    · rw [validD_cons a r c, utf_go (a :: r) 1 (by omega) (by rw [ulen_cons, ulenC, if_pos c])]
      exact utf_eq n r (by omega)
    · rw [validD_lead (a :: r) (by simp) (by show 128 ≤ a.toNat; omega)]
      have := check_ulen a r (by omega)
      simp only [List.getD_cons_zero] at this ⊢
      rw [this, utf_step (a :: r) (by simp)]
      by_cases c0 : ulen (a :: r) = 0
      · rw [if_pos c0, c0]; rfl
      · rw [if_neg c0]
        rw [show (ulen (a :: r) != 0) = true by simp [c0], Bool.true_and]
        exact utf_eq n _ (by rw [List.length_drop, List.length_cons]; omega)
end Go.Proofs.YtklciidffdnglaaDoor
