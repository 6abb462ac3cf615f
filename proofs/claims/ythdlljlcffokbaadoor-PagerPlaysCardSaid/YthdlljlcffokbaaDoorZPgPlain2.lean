/- Plain facts on pages: a sum tells one byte from another; what is made is read; what is read was made. No condition. -/
import Derived.Test.YthdlljlcffokbaaDoorZb3
namespace Go.Proofs.YthdlljlcffokbaaDoor

/-- One byte of a list is another one. -/
theorem set_split {l : List UInt8} {k : Nat} (hk : k < l.length) (d : UInt8) : l = l.take k ++ l[k] :: l.drop (k + 1) ∧ l.set k d = l.take k ++ d :: l.drop (k + 1) := by
  constructor
  · rw [← List.drop_eq_getElem_cons hk, List.take_append_drop]
  · rw [List.set_eq_take_append_cons_drop, if_pos hk]
theorem be8_inj {n m : Nat} (hn : n < M64) (hm : m < M64) (h : be8 n = be8 m) : n = m := by
  rw [← val8_be8 n hn, ← val8_be8 m hm, h]

theorem head_split (p : List UInt8) (h : p.length = 512) : p.drop 8 = p.getD 8 0 :: p.getD 9 0 :: p.drop 10 := by
  have h8 : 8 < p.length := by omega
  have h9 : 9 < p.length := by omega
  rw [List.drop_eq_getElem_cons h8, List.drop_eq_getElem_cons h9]
  simp [List.getD, h8, h9]
theorem ofNat_toNat8 (c : UInt8) : UInt8.ofNat c.toNat = c := by simp
/-- A page that is read was made so; a page that was made is read. -/
theorem decOk_iff (n : Nat) (p : List UInt8) (h : p.length = 512) :
    DecOk n p ↔ longOf p ≤ 502 ∧ pageOf n ((p.drop 10).take (longOf p)) = p := by
  unfold DecOk
  constructor
  · rintro ⟨h1, h2, h3⟩
    refine ⟨h1, ?_⟩
    have ht : tailOf ((p.drop 10).take (longOf p)) = p.drop 8 := by
      have hl : ((p.drop 10).take (longOf p)).length = longOf p := by simp; omega
      unfold tailOf
      rw [hl, head_split p h]
      have hb : (p.getD 9 0).toNat < 256 := UInt8.toNat_lt _
      have e1 : UInt8.ofNat (longOf p / 256) = p.getD 8 0 := by
        rw [show longOf p / 256 = (p.getD 8 0).toNat from by unfold longOf; omega, ofNat_toNat8]
      have e2 : UInt8.ofNat (longOf p) = p.getD 9 0 := by
        apply UInt8.toNat_inj.1
        rw [UInt8.toNat_ofNat']
        unfold longOf; omega
      rw [e1, e2]
      congr 2
      have e3 : List.replicate (502 - longOf p) (0 : UInt8) = (p.drop 10).drop (longOf p) := by
        rw [List.drop_drop]
        symm
        apply List.eq_replicate_iff.2
        exact ⟨by simp; omega, h3⟩
      rw [e3, List.take_append_drop]
    unfold pageOf
    rw [ht]; exact h2
  · rintro ⟨h1, h2⟩
    have hl : ((p.drop 10).take (longOf p)).length = longOf p := by simp; omega
    have ht : p.drop 8 = tailOf ((p.drop 10).take (longOf p)) := by
      rw [← h2]
      conv => rhs; rw [h2]
      unfold pageOf
      exact List.drop_left' (be8_length _)
    refine ⟨h1, ?_, ?_⟩
    · rw [ht]; exact h2
    · intro c hc
      rw [show 10 + longOf p = 8 + (2 + longOf p) from by omega, ← List.drop_drop, ht] at hc
      unfold tailOf at hc
      rw [hl] at hc
      rw [show 2 + longOf p = (longOf p + 1) + 1 from by omega, List.drop_succ_cons, List.drop_succ_cons, List.drop_left' hl] at hc
      exact (List.mem_replicate.1 hc).2
theorem page_drop8 (n : Nat) (b : List UInt8) : (pageOf n b).drop 8 = tailOf b := List.drop_left' (be8_length _)
theorem page_long (n : Nat) (b : List UInt8) (h : b.length ≤ 502) : longOf (pageOf n b) = b.length := by
  have hp := pageOf_length n b h
  have e := head_split _ hp
  rw [page_drop8] at e
  unfold tailOf at e
  injection e with e1 e
  injection e with e2 _
  unfold longOf
  rw [← e1, ← e2, UInt8.toNat_ofNat', UInt8.toNat_ofNat']
  omega
theorem page_out (n : Nat) (b : List UInt8) : ((pageOf n b).drop 10).take b.length = b := by
  rw [show 10 = 8 + 2 from rfl, ← List.drop_drop, page_drop8]
  unfold tailOf
  rw [List.drop_succ_cons, List.drop_succ_cons, List.drop_zero]
  exact List.take_left' rfl
theorem page_ok (n : Nat) (b : List UInt8) (h : b.length ≤ 502) : DecOk n (pageOf n b) := by
  rw [decOk_iff n _ (pageOf_length n b h), page_long n b h, page_out n b]
  exact ⟨h, rfl⟩
/-- A page with another number's sum, or one byte otherwise, is refused. -/
theorem decOk_sum {n : Nat} {p : List UInt8} (h : DecOk n p) : be8 (pageSum n (p.drop 8)) = p.take 8 := by
  have := congrArg (List.take 8) h.2.1
  rwa [List.take_left' (be8_length _)] at this
end Go.Proofs.YthdlljlcffokbaaDoor
