/- Plain facts on pages: a sum tells one byte from another; what is made is read; what is read was made. No condition. -/
import Derived.Test.YthdlljlcffokbaaDoorZb3
namespace Go.Proofs.YthdlljlcffokbaaDoor

theorem mulInv (x : Nat) (h : x < M64) : (x * 1099511628211 % M64) * 14886173955864302971 % M64 = x := by
  have e : x * 1099511628211 * 14886173955864302971 = x + x * 887285111055 * M64 := by
    rw [Nat.mul_assoc, Nat.mul_assoc, show (1099511628211 * 14886173955864302971 : Nat) = 1 + 887285111055 * M64 from by decide, Nat.mul_add, Nat.mul_one]
  rw [Nat.mul_mod, Nat.mod_mod, ← Nat.mul_mod, e, Nat.add_mul_mod_self_right, Nat.mod_eq_of_lt h]
theorem xor_lt {s : Nat} (c : UInt8) (h : s < M64) : s ^^^ c.toNat < M64 := by
  have h1 : s < 2 ^ 64 := h
  have h2 : c.toNat < 2 ^ 64 := by have := c.toNat_lt; omega
  exact Nat.xor_lt_two_pow h1 h2
theorem fnv1_inj {s t : Nat} {c d : UInt8} (hs : s < M64) (ht : t < M64) (h : fnv1 s c = fnv1 t d) : s ^^^ c.toNat = t ^^^ d.toNat := by
  rw [← mulInv _ (xor_lt c hs), ← mulInv _ (xor_lt d ht)]
  unfold fnv1 at h
  rw [h]
theorem xor_right_inj {a b c : Nat} (h : a ^^^ c = b ^^^ c) : a = b := by
  have := congrArg (· ^^^ c) h
  simpa [Nat.xor_assoc] using this
theorem xor_left_inj {a b c : Nat} (h : c ^^^ a = c ^^^ b) : a = b := by
  have := congrArg (c ^^^ ·) h
  simpa [← Nat.xor_assoc] using this
theorem fnv_state {s t : Nat} (l : List UInt8) (hs : s < M64) (ht : t < M64) (h : fnv s l = fnv t l) : s = t := by
  induction l generalizing s t with
  | nil => exact h
  | cons c l ih => exact xor_right_inj (fnv1_inj hs ht (ih (fnv1_lt s c) (fnv1_lt t c) h))
theorem fnv_other {s : Nat} (a r : List UInt8) {c d : UInt8} (hs : s < M64) (hne : c ≠ d) : fnv s (a ++ c :: r) ≠ fnv s (a ++ d :: r) := by
  intro h
  rw [fnv_append, fnv_append] at h
  have h1 : fnv1 (fnv s a) c = fnv1 (fnv s a) d := fnv_state r (fnv1_lt _ _) (fnv1_lt _ _) h
  exact hne (UInt8.toNat_inj.1 (xor_left_inj (fnv1_inj (fnv_lt s hs a) (fnv_lt s hs a) h1)))
/-- One byte of a list is another one. -/
theorem set_split {l : List UInt8} {k : Nat} (hk : k < l.length) (d : UInt8) : l = l.take k ++ l[k] :: l.drop (k + 1) ∧ l.set k d = l.take k ++ d :: l.drop (k + 1) := by
  constructor
  · rw [← List.drop_eq_getElem_cons hk, List.take_append_drop]
  · rw [List.set_eq_take_append_cons_drop, if_pos hk]
theorem fnv_set {s : Nat} {l : List UInt8} {k : Nat} (hs : s < M64) (hk : k < l.length) {d : UInt8} (hne : d ≠ l[k]) : fnv s (l.set k d) ≠ fnv s l := by
  have h := set_split hk d
  rw [h.2]
  conv => rhs; rw [h.1]
  exact fnv_other _ _ hs hne

theorem be8_inj {n m : Nat} (hn : n < M64) (hm : m < M64) (h : be8 n = be8 m) : n = m := by
  rw [← val8_be8 n hn, ← val8_be8 m hm, h]

theorem head_split (p : List UInt8) (h : p.length = 512) : p.drop 8 = p.getD 8 0 :: p.getD 9 0 :: p.drop 10 := by
  have h8 : 8 < p.length := by omega
  have h9 : 9 < p.length := by omega
  rw [List.drop_eq_getElem_cons h8, List.drop_eq_getElem_cons h9]
  simp [List.getD, h8, h9]
theorem ofNat_toNat8 (c : UInt8) : UInt8.ofNat c.toNat = c := by simp
/-- A page that is read was made so; a page that was made is read. -/
theorem decOk_iff (n : Nat) (p : List UInt8) (h : p.length = 512) :
    DecOk n p ↔ longOf p ≤ 502 ∧ pageOf n ((p.drop 10).take (longOf p)) = p := by
  unfold DecOk
  constructor
  · rintro ⟨h1, h2, h3⟩
    refine ⟨h1, ?_⟩
    have ht : tailOf ((p.drop 10).take (longOf p)) = p.drop 8 := by
      have hl : ((p.drop 10).take (longOf p)).length = longOf p := by simp; omega
      unfold tailOf
      rw [hl, head_split p h]
      have hb : (p.getD 9 0).toNat < 256 := UInt8.toNat_lt _
      have e1 : UInt8.ofNat (longOf p / 256) = p.getD 8 0 := by
        rw [show longOf p / 256 = (p.getD 8 0).toNat from by unfold longOf; omega, ofNat_toNat8]
      have e2 : UInt8.ofNat (longOf p) = p.getD 9 0 := by
        apply UInt8.toNat_inj.1
        rw [UInt8.toNat_ofNat']
        unfold longOf; omega
      rw [e1, e2]
      congr 2
      have e3 : List.replicate (502 - longOf p) (0 : UInt8) = (p.drop 10).drop (longOf p) := by
        rw [List.drop_drop]
        symm
        apply List.eq_replicate_iff.2
        exact ⟨by simp; omega, h3⟩
      rw [e3, List.take_append_drop]
    unfold pageOf
    rw [ht]; exact h2
  · rintro ⟨h1, h2⟩
    have hl : ((p.drop 10).take (longOf p)).length = longOf p := by simp; omega
    have ht : p.drop 8 = tailOf ((p.drop 10).take (longOf p)) := by
      rw [← h2]
      conv => rhs; rw [h2]
      unfold pageOf
      exact List.drop_left' (be8_length _)
    refine ⟨h1, ?_, ?_⟩
    · rw [ht]; exact h2
    · intro c hc
      rw [show 10 + longOf p = 8 + (2 + longOf p) from by omega, ← List.drop_drop, ht] at hc
      unfold tailOf at hc
      rw [hl] at hc
      rw [show 2 + longOf p = (longOf p + 1) + 1 from by omega, List.drop_succ_cons, List.drop_succ_cons, List.drop_left' hl] at hc
      exact (List.mem_replicate.1 hc).2
theorem page_drop8 (n : Nat) (b : List UInt8) : (pageOf n b).drop 8 = tailOf b := List.drop_left' (be8_length _)
theorem page_take8 (n : Nat) (b : List UInt8) : (pageOf n b).take 8 = be8 (pageSum n (tailOf b)) := List.take_left' (be8_length _)
theorem page_long (n : Nat) (b : List UInt8) (h : b.length ≤ 502) : longOf (pageOf n b) = b.length := by
  have hp := pageOf_length n b h
  have e := head_split _ hp
  rw [page_drop8] at e
  unfold tailOf at e
  injection e with e1 e
  injection e with e2 _
  unfold longOf
  rw [← e1, ← e2, UInt8.toNat_ofNat', UInt8.toNat_ofNat']
  omega
theorem page_out (n : Nat) (b : List UInt8) : ((pageOf n b).drop 10).take b.length = b := by
  rw [show 10 = 8 + 2 from rfl, ← List.drop_drop, page_drop8]
  unfold tailOf
  rw [List.drop_succ_cons, List.drop_succ_cons, List.drop_zero]
  exact List.take_left' rfl
theorem page_ok (n : Nat) (b : List UInt8) (h : b.length ≤ 502) : DecOk n (pageOf n b) := by
  rw [decOk_iff n _ (pageOf_length n b h), page_long n b h, page_out n b]
  exact ⟨h, rfl⟩
/-- A page with another number's sum, or one byte otherwise, is refused. -/
theorem decOk_sum {n : Nat} {p : List UInt8} (h : DecOk n p) : be8 (pageSum n (p.drop 8)) = p.take 8 := by
  have := congrArg (List.take 8) h.2.1
  rwa [List.take_left' (be8_length _)] at this
theorem page_set_no (n : Nat) (b : List UInt8) (h : b.length ≤ 502) (k : Nat) (hk : k < 512) (d : UInt8) (hne : some d ≠ (pageOf n b)[k]?) : ¬ DecOk n ((pageOf n b).set k d) := by
  intro hd
  have hp := pageOf_length n b h
  have hkl : k < (pageOf n b).length := by omega
  have hs := decOk_sum hd
  have hd' : d ≠ (pageOf n b)[k] := fun e => hne (by rw [e, List.getElem?_eq_getElem hkl])
  by_cases h8 : k < 8
  · rw [List.drop_set_of_lt h8, page_drop8, ← page_take8, ] at hs
    have h1 := congrArg (fun l => l[k]?) hs
    simp only [List.getElem?_take, if_pos h8, List.getElem?_set_self hkl, List.getElem?_eq_getElem hkl] at h1
    injection h1 with h1
    exact hd' h1.symm
  · rw [List.take_set_of_le (by omega), page_take8] at hs
    have hsum := be8_inj (pageSum_lt _ _) (pageSum_lt _ _) hs
    rw [List.drop_set, if_neg h8, page_drop8] at hsum
    unfold pageSum at hsum
    have hkt : k - 8 < (tailOf b).length := by rw [tailOf_length b h]; omega
    refine fnv_set (fnv_lt _ fnv0_lt _) hkt ?_ hsum
    have e : (tailOf b)[k - 8] = (pageOf n b)[k] := by
      have : (pageOf n b)[k]? = (tailOf b)[k - 8]? := by
        unfold pageOf; rw [List.getElem?_append_right (by rw [be8_length]; omega), be8_length]
      rw [List.getElem?_eq_getElem hkl, List.getElem?_eq_getElem hkt] at this
      injection this with this; exact this.symm
    rw [e]; exact hd'
theorem page_num_no (n m : Nat) (b : List UInt8) (k : Nat) (hk : k < 8) (d : UInt8) (hm : be8 m = (be8 n).set k d) (hne : be8 m ≠ be8 n) : ¬ DecOk m (pageOf n b) := by
  intro hd
  have hs := decOk_sum hd
  rw [page_drop8, page_take8] at hs
  have hsum := be8_inj (pageSum_lt _ _) (pageSum_lt _ _) hs
  have hst := fnv_state (tailOf b) (fnv_lt _ fnv0_lt _) (fnv_lt _ fnv0_lt _) hsum
  rw [hm] at hst hne
  have hkl : k < (be8 n).length := by rw [be8_length]; exact hk
  refine fnv_set fnv0_lt hkl (fun e => hne ?_) hst
  rw [e, List.set_getElem_self]
end Go.Proofs.YthdlljlcffokbaaDoor
