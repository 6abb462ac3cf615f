/- Contracts of slices.Clone at its instances. -/
import Derived.Test.YtbfeailalhddgaaDisk2
import Derived.Test.YtbfeailalhddgaaBase5
namespace Go.Proofs.Ytbfeailalhddgaa
open Go.RowKit

theorem info_byte : (Try.prog.info? 5).map (fun i => (i.zero, i.size, i.bytes)) = some (some (.int .u8 0), 1, 1) := by kernel_rfl
theorem info_bool : (Try.prog.info? 4).map (fun i => (i.zero, i.size, i.bytes)) = some (some (.bool false), 1, 1) := by kernel_rfl
theorem write_info : (Try.prog.info? 67).map (fun i => (i.zero, i.size, i.bytes)) = some (some (.agg (wcells (0, zsec)).toArray), 129, 136) := by kernel_rfl
theorem size_byte : (Try.prog.info? 5).map (·.size) = some 1 := by kernel_rfl
theorem size_sec : (Try.prog.info? 65).map (·.size) = some 128 := by kernel_rfl

set_option maxHeartbeats 400000 in
theorem cloneB (A : Option Addr) (len cap : Nat) (xs : List Value) (w : World) (hm : len ≤ 1073741824) (hr : Rd w A (len * 1) xs) (h1 : ∀ u ∈ xs, u.oneCell' = true) (hN : A = none → cap = 0) :
    Calls Try.prog 30 #[.slice A len cap] w fun e w' => ∃ v, e = .returned v ∧ w'.ownsRow w.heap.size 5 1 v len xs ∧ Fr0 w w' := by
  have HR := Lib.hid hr
  have HN := Lib.hid hN
  have H1 := Lib.hid h1
  clear hr hN h1
  have hnil := fun (W : World) (a : Option Addr) (n c : Nat) => Lib.run_eql_slice_nil (P := Try.prog) W 32 5 a n c 0 0 Try.underlying32
  cases A with
  | none =>
    obtain rfl : cap = 0 := HN.out rfl
    have h0 : len = 0 := by
      rcases Nat.eq_zero_or_pos len with h | h
      · exact h
      · obtain ⟨_, _, e, _⟩ := HR.out.2 (by omega); cases e
    subst h0
    go_enter Try.func30, Try.ntmps30
    go_wp2
    go_ret
    have hx : xs = [] := List.eq_nil_of_length_eq_zero (by rw [HR.out.1, Nat.zero_mul])
    subst hx
    exact ⟨_, rfl, World.ownsRow_nil w _ _ _, Fr.refl⟩
  | some a =>
    go_enter Try.func30, Try.ntmps30
    go_wp2_with (first
      | (at_builtin
         refine Does.list rfl (does_appendN (.tmp 5) (.tmp 6) 32 rfl w.heap.size 5 _ 1 1 Try.underlying32 info_byte (by kernel_rfl) (by omega) _ 0 [] rfl (ownN_new0 w 5 1) (some a) len cap xs rfl (HR.out.fr0 (Fr.refl.alloc _)) H1.out (by unfold maxLen; omega) (by omega) (by simp)) ?_
         rintro v w1 ⟨ho, hg, _⟩
         have HO := Lib.hid ho
         have HF := Lib.hid (Fr.appN (S := Nowhere) (Fr.refl.alloc _) (ownN_new0 w 5 1) (Nat.le_refl _) hg)
         clear ho hg)
      | fail)
    go_ret
    exact ⟨v, rfl, by simpa using HO.out, HF.out⟩

set_option maxHeartbeats 400000 in
theorem cloneBool (A : Option Addr) (len cap : Nat) (xs : List Value) (w : World) (hm : len ≤ 140737488351232) (hr : Rd w A (len * 1) xs) (h1 : ∀ u ∈ xs, u.oneCell' = true) (hN : A = none → cap = 0) :
    Calls Try.prog 31 #[.slice A len cap] w fun e w' => ∃ v, e = .returned v ∧ w'.ownsRow w.heap.size 4 1 v len xs ∧ Fr0 w w' := by
  have HR := Lib.hid hr
  have HN := Lib.hid hN
  have H1 := Lib.hid h1
  clear hr hN h1
  have hnil := fun (W : World) (a : Option Addr) (n c : Nat) => Lib.run_eql_slice_nil (P := Try.prog) W 23 4 a n c 0 0 Try.underlying23
  cases A with
  | none =>
    obtain rfl : cap = 0 := HN.out rfl
    have h0 : len = 0 := by
      rcases Nat.eq_zero_or_pos len with h | h
      · exact h
      · obtain ⟨_, _, e, _⟩ := HR.out.2 (by omega); cases e
    subst h0
    go_enter Try.func31, Try.ntmps31
    go_wp2
    go_ret
    have hx : xs = [] := List.eq_nil_of_length_eq_zero (by rw [HR.out.1, Nat.zero_mul])
    subst hx
    exact ⟨_, rfl, World.ownsRow_nil w _ _ _, Fr.refl⟩
  | some a =>
    go_enter Try.func31, Try.ntmps31
    go_wp2_with (first
      | (at_builtin
         refine Does.list rfl (does_appendN (.tmp 5) (.tmp 6) 23 rfl w.heap.size 4 _ 1 1 Try.underlying23 info_bool (by kernel_rfl) (by omega) _ 0 [] rfl (ownN_new0 w 4 1) (some a) len cap xs rfl (HR.out.fr0 (Fr.refl.alloc _)) H1.out (by unfold maxLen; omega) (by omega) (by simp)) ?_
         rintro v w1 ⟨ho, hg, _⟩
         have HO := Lib.hid ho
         have HF := Lib.hid (Fr.appN (S := Nowhere) (Fr.refl.alloc _) (ownN_new0 w 4 1) (Nat.le_refl _) hg)
         clear ho hg)
      | fail)
    go_ret
    exact ⟨v, rfl, by simpa using HO.out, HF.out⟩

set_option maxHeartbeats 400000 in
theorem cloneSec (A : Option Addr) (len cap : Nat) (xs : List Value) (w : World) (hm : len ≤ 1073741824) (hr : Rd w A (len * 128) xs) (h1 : ∀ u ∈ xs, u.oneCell' = true) (hN : A = none → cap = 0) :
    Calls Try.prog 29 #[.slice A len cap] w fun e w' => ∃ v, e = .returned v ∧ w'.ownsRow w.heap.size 65 128 v len xs ∧ Fr0 w w' := by
  have HR := Lib.hid hr
  have HN := Lib.hid hN
  have H1 := Lib.hid h1
  clear hr hN h1
  have hnil := fun (W : World) (a : Option Addr) (n c : Nat) => Lib.run_eql_slice_nil (P := Try.prog) W 58 65 a n c 0 0 Try.underlying58
  cases A with
  | none =>
    obtain rfl : cap = 0 := HN.out rfl
    have h0 : len = 0 := by
      rcases Nat.eq_zero_or_pos len with h | h
      · exact h
      · obtain ⟨_, _, e, _⟩ := HR.out.2 (by omega); cases e
    subst h0
    go_enter Try.func29, Try.ntmps29
    go_wp2
    go_ret
    have hx : xs = [] := List.eq_nil_of_length_eq_zero (by rw [HR.out.1, Nat.zero_mul])
    subst hx
    exact ⟨_, rfl, World.ownsRow_nil w _ _ _, Fr.refl⟩
  | some a =>
    go_enter Try.func29, Try.ntmps29
    go_wp2_with (first
      | (at_builtin
         refine Does.list rfl (does_appendN (.tmp 5) (.tmp 6) 58 rfl w.heap.size 65 _ 128 128 Try.underlying58 sec_info (by kernel_rfl) (by omega) _ 0 [] rfl (ownN_new0 w 65 128) (some a) len cap xs rfl (HR.out.fr0 (Fr.refl.alloc _)) H1.out (by unfold maxLen; omega) (by omega) (by simp)) ?_
         rintro v w1 ⟨ho, hg, _⟩
         have HO := Lib.hid ho
         have HF := Lib.hid (Fr.appN (S := Nowhere) (Fr.refl.alloc _) (ownN_new0 w 65 128) (Nat.le_refl _) hg)
         clear ho hg)
      | fail)
    go_ret
    exact ⟨v, rfl, by simpa using HO.out, HF.out⟩

set_option maxHeartbeats 400000 in
theorem cloneW (A : Option Addr) (len cap : Nat) (xs : List Value) (w : World) (hm : len ≤ 1073741824) (hr : Rd w A (len * 129) xs) (h1 : ∀ u ∈ xs, u.oneCell' = true) (hN : A = none → cap = 0) :
    Calls Try.prog 42 #[.slice A len cap] w fun e w' => ∃ v, e = .returned v ∧ w'.ownsRow w.heap.size 67 129 v len xs ∧ Fr0 w w' := by
  have HR := Lib.hid hr
  have HN := Lib.hid hN
  have H1 := Lib.hid h1
  clear hr hN h1
  have hnil := fun (W : World) (a : Option Addr) (n c : Nat) => Lib.run_eql_slice_nil (P := Try.prog) W 59 67 a n c 0 0 Try.underlying59
  cases A with
  | none =>
    obtain rfl : cap = 0 := HN.out rfl
    have h0 : len = 0 := by
      rcases Nat.eq_zero_or_pos len with h | h
      · exact h
      · obtain ⟨_, _, e, _⟩ := HR.out.2 (by omega); cases e
    subst h0
    go_enter Try.func42, Try.ntmps42
    go_wp2
    go_ret
    have hx : xs = [] := List.eq_nil_of_length_eq_zero (by rw [HR.out.1, Nat.zero_mul])
    subst hx
    exact ⟨_, rfl, World.ownsRow_nil w _ _ _, Fr.refl⟩
  | some a =>
    go_enter Try.func42, Try.ntmps42
    go_wp2_with (first
      | (at_builtin
         refine Does.list rfl (does_appendN (.tmp 5) (.tmp 6) 59 rfl w.heap.size 67 _ 129 136 Try.underlying59 write_info (by kernel_rfl) (by omega) _ 0 [] rfl (ownN_new0 w 67 129) (some a) len cap xs rfl (HR.out.fr0 (Fr.refl.alloc _)) H1.out (by unfold maxLen; omega) (by omega) (by simp)) ?_
         rintro v w1 ⟨ho, hg, _⟩
         have HO := Lib.hid ho
         have HF := Lib.hid (Fr.appN (S := Nowhere) (Fr.refl.alloc _) (ownN_new0 w 67 129) (Nat.le_refl _) hg)
         clear ho hg)
      | fail)
    go_ret
    exact ⟨v, rfl, by simpa using HO.out, HF.out⟩
end Go.Proofs.Ytbfeailalhddgaa
