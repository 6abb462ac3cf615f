/- The laws PageByte and PageNumber, walked. -/
import Derived.Test.YtnkodmkoomifaaaDoorPageWorks
import Derived.OpenShut
import Derived.Laws.BitsAllLaws
namespace Go.Proofs.YtnkodmkoomifaaaDoor
open Go.RowKit

set_option maxRecDepth 100000 in
set_option maxHeartbeats 2000000 in
theorem pageByte_no (n : Int) (A : Option Addr) (len cap : Nat) (at_ : Int) (y : Int) (w : World) (h : n < 0 ∨ 16383 < n ∨ 502 < len) :
    Calls Tryd.prog 6 #[.int .i64 n, .slice A len cap, .int .i64 at_, .int .u8 y] w fun e w' => e = .returned (.bool true) ∧ Fr0 w w' := by
  have HH := Lib.hid h
  clear h
  go_enter Tryd.func6, Tryd.ntmps6
  go_wp2_with fail
  refine (works_any _).mono ?_
  rintro e w1 ⟨rfl, hf⟩
  have HF := Lib.hid hf
  clear hf
  go_wp2_with fail
  refine (encode_no n A len cap w1 HH.out).mono ?_
  rintro e _ ⟨rfl, rfl⟩
  go_wp2
  go_ret
  exact ⟨rfl, HF.out⟩

set_option maxRecDepth 100000 in
set_option maxHeartbeats 2000000 in
theorem pageByte_zero (n : Nat) (A : Option Addr) (len cap : Nat) (b : List UInt8) (at_ : Int) (w : World) (hn : n ≤ 16383) (hb : len ≤ 502) (hr : Rd w A len (bvs b)) :
    Calls Tryd.prog 6 #[.int .i64 (n : Int), .slice A len cap, .int .i64 at_, .int .u8 0] w fun e w' => e = .returned (.bool true) ∧ Fr0 w w' := by
  have HR := Lib.hid hr
  clear hr
  go_enter Tryd.func6, Tryd.ntmps6
  go_wp2_with fail
  refine (works_any _).mono ?_
  rintro e w1 ⟨rfl, hf⟩
  have HF := Lib.hid hf
  clear hf
  go_wp2_with fail
  refine (encode_ok n A len cap b w1 hn hb (HR.out.fr0 HF.out)).mono ?_
  rintro e w2 ⟨vq, rfl, ho, hf⟩
  replace HF := Lib.hid (HF.out.then0 hf)
  clear ho hf
  go_wp2
  go_ret
  exact ⟨rfl, HF.out⟩

theorem xor_self8 {c y : UInt8} (h : c ^^^ y = c) : y = 0 := by
  have := congrArg (c ^^^ ·) h
  simpa [← UInt8.xor_assoc] using this
theorem ofInt_i64' (a : Nat) (ha : a < 9223372036854775808) : (BitVec.ofInt 64 (a : Int)).toNat = a := by
  rw [BitVec.ofInt_natCast, BitVec.toNat_ofNat]; exact Nat.mod_eq_of_lt (by omega)
theorem i64_xor' (a b : Nat) (ha : a < 65536) (hb : b < 65536) : bits .xor .i64 (a : Int) (b : Int) = ((a ^^^ b : Nat) : Int) := by
  have hx : a ^^^ b < 2 ^ 16 := Nat.xor_lt_two_pow (by omega) (by omega)
  show IntKind.i64.wrap ((BitVec.ofInt 64 (a : Int) ^^^ BitVec.ofInt 64 (b : Int)).toNat : Int) = _
  rw [BitVec.toNat_xor, ofInt_i64' a (by omega), ofInt_i64' b (by omega), IntKind.wrap_i64]
  omega

set_option maxRecDepth 100000 in
set_option maxHeartbeats 2000000 in
theorem pageByte_some (n : Nat) (A : Option Addr) (len cap : Nat) (b : List UInt8) (at_ : Int) (y : UInt8) (w : World) (hn : n ≤ 16383) (hb : len ≤ 502) (hr : Rd w A len (bvs b)) (hy : y ≠ 0) :
    Calls Tryd.prog 6 #[.int .i64 (n : Int), .slice A len cap, .int .i64 at_, .int .u8 (y.toNat : Int)] w fun e w' => e = .returned (.bool true) ∧ Fr0 w w' := by
  have HR := Lib.hid hr
  have HY := Lib.hid hy
  have hy0 : ((y.toNat : Int) == 0) = false := by
    rw [beq_eq_false_iff_ne]; intro h; exact hy (UInt8.toNat_inj.1 (by simpa using h))
  have hyb : y.toNat < 256 := y.toNat_lt
  clear hr hy
  have HBL := Lib.hid (show b.length = len by rw [← bvs_length, HR.out.1])
  go_enter Tryd.func6, Tryd.ntmps6
  go_wp2_with fail
  refine (works_any _).mono ?_
  rintro e w1 ⟨rfl, hf⟩
  have HF := Lib.hid hf
  clear hf
  go_wp2_with fail
  refine (encode_ok n A len cap b w1 hn hb (HR.out.fr0 HF.out)).mono ?_
  rintro e w2 ⟨vq, rfl, ho, hf⟩
  obtain ⟨g, cq, rest, rfl, hg, hcq, hbk, hlk⟩ := own_blk ho (by omega)
  have HBK := Lib.hid hbk
  have HF1 := Lib.hid HF.out.size
  replace HF := Lib.hid (HF.out.then0 hf)
  clear ho hf hbk hlk
  obtain ⟨k, hk, hk2⟩ : ∃ k : Nat, (IntKind.u64.wrap at_).tmod 512 = (k : Int) ∧ k < 512 := by
    have h0 := wrap_u64_nonneg at_
    rw [Int.tmod_eq_emod_of_nonneg h0]
    refine ⟨(IntKind.u64.wrap at_ % 512).toNat, ?_, ?_⟩ <;> omega
  have HPL := Lib.hid (pageOf_length n b (by rw [HBL.out]; exact hb))
  obtain ⟨c, hc⟩ : ∃ c, (pageOf n b)[k]? = some c := ⟨_, List.getElem?_eq_getElem (by rw [HPL.out]; exact hk2)⟩
  have hcell : w2.cell? ⟨g, k, none⟩ = some (.int .u8 (c.toNat : Int)) := by
    rw [HBK.out.cell, List.getElem?_append_left (by rw [bvs_length, HPL.out]; exact hk2), bvs_getElem?, hc]; rfl
  have hfz := HBK.out.frozen k
  have HC := Lib.hid hc
  have hcb : c.toNat < 256 := c.toNat_lt
  clear hc
  go_wp2_with fail
  rw [u8_xor_nat c.toNat y.toNat hcb hyb, ← UInt8.toNat_xor]
  have HB3 := Lib.hid (HBK.out.set k (bv (c ^^^ y)))
  rw [List.set_append_left _ _ (by rw [bvs_length, HPL.out]; exact hk2), show (bvs (pageOf n b)).set k (bv (c ^^^ y)) = bvs ((pageOf n b).set k (c ^^^ y)) from by simp [bvs, List.map_set]] at HB3
  have HL3 := Lib.hid (show ((pageOf n b).set k (c ^^^ y)).length = 512 by rw [List.length_set, HPL.out])
  have HNO := Lib.hid (page_set_no n b (by rw [HBL.out]; exact hb) k hk2 (c ^^^ y) (by
    rw [HC.out]; intro h; injection h with h; exact HY.out (xor_self8 h)))
  have HF3 := Lib.hid (HF.out.setCell (p := ⟨g, k, none⟩) (fun h => by have h : g < w.heap.size := h; have := HF1.out; omega) (bv (c ^^^ y)))
  generalize (pageOf n b).set k (c ^^^ y) = pg at *
  refine (decode_no n (some ⟨g, 0, none⟩) cq pg _ hn hcq (rd_blk HB3.out 0 512 _ (by rw [List.length_append, bvs_length, HL3.out]; omega) (by rw [List.drop_zero]; exact List.take_left' (by rw [bvs_length, HL3.out]))) HNO.out).mono ?_
  rintro e w4 ⟨rfl, hf⟩
  replace HF3 := Lib.hid (HF3.out.then0 hf)
  clear hf
  go_wp2
  go_ret
  exact ⟨rfl, HF3.out⟩

theorem pageByte_walk (a0 : Int) (a1 : Option Addr) (len1 cap1 : Nat) (b : List UInt8) (a2 a3 : Int) (w : World) (hr : Rd w a1 len1 (bvs b)) (h3 : (Lit.int .u8 a3).wf = true) :
    Calls Tryd.prog 6 #[.int .i64 a0, .slice a1 len1 cap1, .int .i64 a2, .int .u8 a3] w fun e w' => e = .returned (.bool true) ∧ Below w.heap.size w w' := by
  have hb3 := bounds_u8 h3
  by_cases h : a0 < 0 ∨ 16383 < a0 ∨ 502 < len1
  · exact (pageByte_no a0 a1 len1 cap1 a2 a3 w h).mono fun e w' ⟨he, hf⟩ => ⟨he, hf.below⟩
  · obtain ⟨n, rfl⟩ := Int.eq_ofNat_of_zero_le (show 0 ≤ a0 by omega)
    obtain ⟨y, hy⟩ : ∃ y : UInt8, a3 = (y.toNat : Int) := ⟨UInt8.ofNat a3.toNat, by rw [UInt8.toNat_ofNat']; omega⟩
    by_cases h0 : y = 0
    · subst h0; subst hy
      exact (pageByte_zero n a1 len1 cap1 b a2 w (by omega) (by omega) hr).mono fun e w' ⟨he, hf⟩ => ⟨he, hf.below⟩
    · subst hy
      exact (pageByte_some n a1 len1 cap1 b a2 y w (by omega) (by omega) hr h0).mono fun e w' ⟨he, hf⟩ => ⟨he, hf.below⟩

set_option maxRecDepth 100000 in
set_option maxHeartbeats 2000000 in
theorem pageNumber_no (n : Int) (A : Option Addr) (len cap : Nat) (y : Int) (hi : Bool) (w : World) (h : n < 0 ∨ 16383 < n ∨ 502 < len) :
    Calls Tryd.prog 7 #[.int .i64 n, .slice A len cap, .int .u8 y, .bool hi] w fun e w' => e = .returned (.bool true) ∧ Fr0 w w' := by
  have HH := Lib.hid h
  clear h
  go_enter Tryd.func7, Tryd.ntmps7
  go_wp2_with fail
  refine (works_any _).mono ?_
  rintro e w1 ⟨rfl, hf⟩
  have HF := Lib.hid hf
  clear hf
  go_wp2_with fail
  refine (encode_no n A len cap w1 HH.out).mono ?_
  rintro e _ ⟨rfl, rfl⟩
  go_wp2
  go_ret
  exact ⟨rfl, HF.out⟩

set_option maxRecDepth 100000 in
set_option maxHeartbeats 2000000 in
theorem pageNumber_zero (n : Nat) (A : Option Addr) (len cap : Nat) (b : List UInt8) (hi : Bool) (w : World) (hn : n ≤ 16383) (hb : len ≤ 502) (hr : Rd w A len (bvs b)) :
    Calls Tryd.prog 7 #[.int .i64 (n : Int), .slice A len cap, .int .u8 0, .bool hi] w fun e w' => e = .returned (.bool true) ∧ Fr0 w w' := by
  have HR := Lib.hid hr
  clear hr
  go_enter Tryd.func7, Tryd.ntmps7
  go_wp2_with fail
  refine (works_any _).mono ?_
  rintro e w1 ⟨rfl, hf⟩
  have HF := Lib.hid hf
  clear hf
  go_wp2_with fail
  refine (encode_ok n A len cap b w1 hn hb (HR.out.fr0 HF.out)).mono ?_
  rintro e w2 ⟨vq, rfl, ho, hf⟩
  replace HF := Lib.hid (HF.out.then0 hf)
  clear ho hf
  go_wp2
  go_ret
  exact ⟨rfl, HF.out⟩

/-- The number with one byte otherwise. -/
def numWith (n : Nat) (y : UInt8) (hi : Bool) : Nat := if hi then n ^^^ (y.toNat * 256) else n ^^^ y.toNat
theorem be8_small (n : Nat) (h : n < 65536) : be8 n = [0, 0, 0, 0, 0, 0, UInt8.ofNat (n / 256), UInt8.ofNat n] := by
  have e : be8 n = [UInt8.ofNat (n >>> 56), UInt8.ofNat (n >>> 48), UInt8.ofNat (n >>> 40), UInt8.ofNat (n >>> 32), UInt8.ofNat (n >>> 24), UInt8.ofNat (n >>> 16), UInt8.ofNat (n >>> 8), UInt8.ofNat (n >>> 0)] := rfl
  rw [e]
  simp only [Nat.shiftRight_eq_div_pow]
  have z : ∀ k, 65536 ≤ k → n / k = 0 := fun k hk => Nat.div_eq_of_lt (by omega)
  rw [z (2 ^ 56) (by decide), z (2 ^ 48) (by decide), z (2 ^ 40) (by decide), z (2 ^ 32) (by decide), z (2 ^ 24) (by decide), z (2 ^ 16) (by decide)]
  simp
theorem numWith_no (n : Nat) (y : UInt8) (hi : Bool) (b : List UInt8) (hn : n ≤ 16383) (hm : numWith n y hi ≤ 16383) (hy : y ≠ 0) : ¬ DecOk (numWith n y hi) (pageOf n b) := by
  have hyb : y.toNat < 256 := y.toNat_lt
  have hne : numWith n y hi ≠ n := by
    intro h
    have hz : ∀ a, n ^^^ a = n → a = 0 := fun a ha => xor_left_inj (c := n) (by rw [ha, Nat.xor_zero])
    cases hi
    · exact hy (UInt8.toNat_inj.1 (by have := hz _ h; simpa using this))
    · exact hy (UInt8.toNat_inj.1 (by have := hz _ h; simp; omega))
  have hbe : be8 (numWith n y hi) ≠ be8 n := fun h => hne (be8_inj (by unfold M64; omega) (by unfold M64; omega) h)
  cases hi
  · refine page_num_no n _ b 7 (by omega) (UInt8.ofNat (numWith n y false)) ?_ hbe
    rw [be8_small _ (by omega), be8_small n (by omega)]
    have : numWith n y false / 256 = n / 256 := by
      show (n ^^^ y.toNat) / 256 = n / 256
      rw [show (256 : Nat) = 2 ^ 8 from rfl, ← Nat.shiftRight_eq_div_pow, ← Nat.shiftRight_eq_div_pow, Nat.shiftRight_xor_distrib, Nat.shiftRight_eq_div_pow y.toNat, Nat.div_eq_of_lt hyb, Nat.xor_zero]
    rw [this]; rfl
  · refine page_num_no n _ b 6 (by omega) (UInt8.ofNat (numWith n y true / 256)) ?_ hbe
    rw [be8_small _ (by omega), be8_small n (by omega)]
    have : UInt8.ofNat (numWith n y true) = UInt8.ofNat n := by
      apply UInt8.toNat_inj.1
      rw [UInt8.toNat_ofNat', UInt8.toNat_ofNat']
      show (n ^^^ (y.toNat * 256)) % 2 ^ 8 = n % 2 ^ 8
      rw [Nat.xor_mod_two_pow, show y.toNat * 256 % 2 ^ 8 = 0 from by omega, Nat.xor_zero]
    rw [this]; rfl
theorem numWith_lt (n : Nat) (y : UInt8) (hi : Bool) (hn : n ≤ 16383) : numWith n y hi < 65536 := by
  have hyb : y.toNat < 256 := y.toNat_lt
  unfold numWith
  split
  · exact Nat.xor_lt_two_pow (n := 16) (by omega) (by omega)
  · exact Nat.xor_lt_two_pow (n := 16) (by omega) (by omega)

set_option maxRecDepth 100000 in
set_option maxHeartbeats 2000000 in
theorem pageNumber_some (n : Nat) (A : Option Addr) (len cap : Nat) (b : List UInt8) (y : UInt8) (hi : Bool) (w : World) (hn : n ≤ 16383) (hb : len ≤ 502) (hr : Rd w A len (bvs b)) (hy : y ≠ 0) :
    Calls Tryd.prog 7 #[.int .i64 (n : Int), .slice A len cap, .int .u8 (y.toNat : Int), .bool hi] w fun e w' => e = .returned (.bool true) ∧ Fr0 w w' := by
  have HR := Lib.hid hr
  have HY := Lib.hid hy
  have hy0 : ((y.toNat : Int) == 0) = false := by
    rw [beq_eq_false_iff_ne]; intro h; exact hy (UInt8.toNat_inj.1 (by simpa using h))
  have hyb : y.toNat < 256 := y.toNat_lt
  have hx1 : bits BinOp.xor IntKind.i64 (n : Int) (y.toNat : Int) = ((numWith n y false : Nat) : Int) := i64_xor' n y.toNat (by omega) (by omega)
  have hx2 : bits BinOp.xor IntKind.i64 (n : Int) ((y.toNat : Int) * 256) = ((numWith n y true : Nat) : Int) := by
    rw [show ((y.toNat : Int) * 256) = ((y.toNat * 256 : Nat) : Int) from by omega]
    exact i64_xor' n (y.toNat * 256) (by omega) (by omega)
  clear hr hy
  go_enter Tryd.func7, Tryd.ntmps7
  go_wp2_with fail
  refine (works_any _).mono ?_
  rintro e w1 ⟨rfl, hf⟩
  have HF := Lib.hid hf
  clear hf
  go_wp2_with fail
  refine (encode_ok n A len cap b w1 hn hb (HR.out.fr0 HF.out)).mono ?_
  rintro e w2 ⟨vq, rfl, ho, hf⟩
  obtain ⟨Aq, cq, rfl, hcq, _, hrd, _⟩ := own_form ho
  have HRQ := Lib.hid hrd
  replace HF := Lib.hid (HF.out.then0 hf)
  clear ho hf hrd
  have HNO := Lib.hid (fun hm => numWith_no n y hi b hn hm HY.out)
  have HLT := Lib.hid (numWith_lt n y hi hn)
  generalize pageOf n b = pg at *
  cases hi
  all_goals
    go_wp2_with fail
    clear hx1 hx2
    generalize numWith n y _ = m at *
    have hm := HLT.out
    by_cases h : 16383 < m
    · refine (decode_arg m Aq 512 cq w2 (.inr (.inl (by omega)))).mono ?_
      rintro e _ ⟨rfl, rfl⟩
      have hd : decide ((16383 : Int) < (m : Int)) = true := by simp; omega
      go_wp2
      go_ret
      exact ⟨rfl, HF.out⟩
    · refine (decode_no m Aq cq pg w2 (by omega) hcq HRQ.out (HNO.out (by omega))).mono ?_
      rintro e w3 ⟨rfl, hf⟩
      replace HF := Lib.hid (HF.out.then0 hf)
      clear hf
      have hd : decide ((16383 : Int) < (m : Int)) = false := by simp; omega
      have hd2 : decide ((m : Int) ≤ (16383 : Int)) = true := by simp; omega
      go_wp2
      go_ret
      exact ⟨rfl, HF.out⟩

theorem pageNumber_walk (a0 : Int) (a1 : Option Addr) (len1 cap1 : Nat) (b : List UInt8) (a2 : Int) (a3 : Bool) (w : World) (hr : Rd w a1 len1 (bvs b)) (h2 : (Lit.int .u8 a2).wf = true) :
    Calls Tryd.prog 7 #[.int .i64 a0, .slice a1 len1 cap1, .int .u8 a2, .bool a3] w fun e w' => e = .returned (.bool true) ∧ Below w.heap.size w w' := by
  have hb3 := bounds_u8 h2
  by_cases h : a0 < 0 ∨ 16383 < a0 ∨ 502 < len1
  · exact (pageNumber_no a0 a1 len1 cap1 a2 a3 w h).mono fun e w' ⟨he, hf⟩ => ⟨he, hf.below⟩
  · obtain ⟨n, rfl⟩ := Int.eq_ofNat_of_zero_le (show 0 ≤ a0 by omega)
    obtain ⟨y, hy⟩ : ∃ y : UInt8, a2 = (y.toNat : Int) := ⟨UInt8.ofNat a2.toNat, by rw [UInt8.toNat_ofNat']; omega⟩
    by_cases h0 : y = 0
    · subst h0; subst hy
      exact (pageNumber_zero n a1 len1 cap1 b a3 w (by omega) (by omega) hr).mono fun e w' ⟨he, hf⟩ => ⟨he, hf.below⟩
    · subst hy
      exact (pageNumber_some n a1 len1 cap1 b y a3 w (by omega) (by omega) hr h0).mono fun e w' ⟨he, hf⟩ => ⟨he, hf.below⟩
end Go.Proofs.YtnkodmkoomifaaaDoor
