/- Contracts of the reference's eight and Encode. -/
import Derived.Test.YtnkodmkoomifaaaDoorPageEncode
namespace Go.Proofs.YtnkodmkoomifaaaDoor
open Go.RowKit

theorem rd_new1 (w : World) (e : TypeId) (v : Value) : Rd (w.alloc (.cells #[v] e)) (some ⟨w.heap.size, 0, none⟩) 1 [v] :=
  rd_blk (Blk.new w e [v]) 0 1 [v] (by simp) rfl

/-- n, i times divided by 256. -/
def down (n i : Nat) : Nat := n / 256 ^ i
theorem down_step (n i : Nat) : down n i / 256 = down n (i + 1) := by
  unfold down; rw [Nat.div_div_eq_div_mul, Nat.pow_succ]
theorem down_zero (n : Nat) : down n 0 = n := by simp [down]
theorem be8_down (n k : Nat) (h : k < 8) : (be8 n)[k]? = some (UInt8.ofNat (down n (7 - k))) := by
  rw [be8_at n k h]
  unfold down
  rw [Nat.shiftRight_eq_div_pow, show (256 : Nat) = 2 ^ 8 from rfl, ← Nat.pow_mul, show 8 * (7 - k) = 56 - 8 * k from by omega]

theorem u64_div (x : Nat) (h : x < M64) : IntKind.u64.wrap ((x : Int) / 256) = ((x / 256 : Nat) : Int) := by
  have h' : x < 18446744073709551616 := h
  rw [IntKind.wrap_u64]; omega
theorem down_lt (n j : Nat) (h : n < M64) : down n j < M64 := Nat.lt_of_le_of_lt (Nat.div_le_self _ _) h

set_option maxHeartbeats 1000000 in
theorem refEight_any (n : Nat) (w : World) (hn : n < M64) :
    Calls Tryd.prog 27 #[.int .u64 (n : Int)] w fun e w' => ∃ v, e = .returned v ∧ w'.ownsRow w.heap.size 5 1 v 8 (bvs (be8 n)) ∧ Fr0 w w' := by
  have HN := Lib.hid hn
  clear hn
  go_enter Tryd.func27, Tryd.ntmps27
  go_wp2
  go_loopw [3, 4] (fun v i wr => ∃ k : Nat, k ≤ 8 ∧ i = .int .i64 (7 - (k : Int)) ∧ wr.ownsRow w.heap.size 5 1 v k (bvs ((be8 n).take k)) ∧ Fr0 w wr) (fun _ i _ => (1 + intOf i).toNat)
  case atStart => exact ⟨0, by omega, rfl, World.ownsRow_nil w _ _ _, Fr.refl⟩
  case round =>
    obtain ⟨k, hk, rfl, hown, hfr⟩ := hrel
    have HO := Lib.hid hown
    have HF := Lib.hid hfr
    clear hown hfr
    by_cases hlt : k < 8
    · obtain ⟨wo, rfl⟩ : ∃ wo : World, wo = wr := ⟨_, rfl⟩
      have hd : decide ((k : Int) ≤ 7) = true := by simp; omega
      go_wp2
      go_loop [5, 6] (fun x i => ∃ j : Nat, j ≤ 7 - k ∧ i = .int .i64 (j : Int) ∧ x = .int .u64 ((down n j : Nat) : Int)) (fun _ i => 8 - (intOf i).toNat)
      case atStart => exact ⟨0, by omega, rfl, by rw [down_zero]⟩
      case round =>
        obtain ⟨j, hj, rfl, rfl⟩ := hrel
        by_cases hjk : j < 7 - k
        · have HD := Lib.hid (down_step n j)
          have HB := Lib.hid (down_lt n j HN.out)
          generalize down n j = x at *
          have hdj : decide ((j : Int) < 7 - (k : Int)) = true := by simp; omega
          go_wp2
          go_round
          case rel => exact ⟨j + 1, by omega, by go_num, by rw [← HD.out, ← u64_div _ HB.out]⟩
          case measure => simp [intOf]; omega
        · have hdj : decide ((j : Int) < 7 - (k : Int)) = false := by simp; omega
          have HX := Lib.hid (be8_down n k hlt)
          have HJ := Lib.hid (show j = 7 - k by omega)
          rw [HJ.out]
          generalize down n (7 - k) = x at *
          go_wp2_with (first
            | (at_builtin
               refine Does.list rfl (does_append (.tmp 19) (.tmp 23) 22 rfl w.heap.size 5 (.int .u8 0) 1 Tryd.underlying22 info_byte rfl _ k (bvs ((be8 n).take k)) rfl (HO.out.alloc _) (some ⟨wo.heap.size, 0, none⟩) 1 1 [.int .u8 ((x : Int) % 256)] rfl (rd_new1 _ _ _) (by simp [Value.oneCell']) (by unfold maxLen; omega) (by omega) (by have := HF.out.size; simp; omega)) ?_
               rintro v w1 ⟨ho, hg, _⟩
               have HO1 := Lib.hid ho
               have HF1 := Lib.hid (Fr.app (HF.out.alloc _) (HO.out.alloc _) (Nat.le_refl _) hg)
               clear ho hg)
            | fail)
          go_roundw
          case rel =>
            refine ⟨k + 1, by omega, by go_num, ?_, HF1.out⟩
            have hkl : k < (be8 n).length := by rw [be8_length]; exact hlt
            have h := HO1.out
            have hx : (be8 n)[k] = UInt8.ofNat x := by
              have := HX.out; rw [List.getElem?_eq_getElem hkl] at this; simpa using this
            rw [List.take_succ_eq_append_getElem hkl, bvs_append, hx]
            rwa [show (Value.int IntKind.u8 ((x : Int) % 256)) = bv (UInt8.ofNat x) from by unfold bv; rw [toNat_ofNat8]] at h
          case measure => simp [intOf]; omega
    · obtain rfl : k = 8 := by omega
      go_wp2
      go_ret
      have h := HO.out
      rw [List.take_of_length_le (by rw [be8_length]; omega)] at h
      exact ⟨_, rfl, h, HF.out⟩

def head2 (l : List UInt8) : List UInt8 := [UInt8.ofNat (l.length / 256), UInt8.ofNat l.length]
theorem head2_length (l : List UInt8) : (head2 l).length = 2 := rfl
theorem head2_bvs (l : List UInt8) (len : Nat) (h : l.length = len) (hl : len ≤ 502) : bvs (head2 l) = [.int .u8 ((len : Int) / 256), .int .u8 ((len : Int) % 256)] := by
  subst h
  simp only [head2, bvs, List.map_cons, List.map_nil, bv, toNat_ofNat8]
  congr 2
  omega
theorem own_new2 (w : World) (e : TypeId) (x y : Value) : (w.alloc (.cells #[x, y] e)).ownsRow w.heap.size e 1 (.slice (some ⟨w.heap.size, 0, none⟩) 2 2) 2 [x, y] :=
  own_of_blk (Blk.new w e [x, y]) (Nat.le_refl _) (by simp [maxLen]) 2 (by simp)

theorem own_apart {w w' : World} {base base' e e' : Nat} {v u : Value} {n m : Nat} {xs ys : List Value} (h : w.ownsRow base e 1 v n xs) (hb : ∀ k, v.ownBlock = some k → k < base') (hu : w.ownsRow base' e' 1 u m ys) (hg : w.grownBy w' u.ownBlock) :
    w'.ownsRow base e 1 v n xs := by
  refine h.kept hg ?_
  cases hv : v.ownBlock with
  | none => exact .inl rfl
  | some k =>
    refine .inr fun he => ?_
    have h1 := hb k hv
    have h2 := (hu.lt k he.symm).1
    omega

set_option maxRecDepth 100000 in
set_option maxHeartbeats 1000000 in
theorem refEncode_ok (n : Nat) (A : Option Addr) (len cap : Nat) (l : List UInt8) (w : World) (hn : n ≤ 16383) (hlen : len ≤ 502) (hr : Rd w A len (bvs l)) :
    Calls Tryd.prog 17 #[.int .i64 (n : Int), .slice A len cap] w fun e w' =>
      ∃ v, e = .returned (.tuple #[v, .int .i64 0]) ∧ w'.ownsRow w.heap.size 5 1 v 512 (bvs (pageOf n l)) ∧ Fr0 w w' := by
  have HR := Lib.hid hr
  have HL := Lib.hid (show l.length = len by rw [← bvs_length, hr.1])
  clear hr
  go_enter Tryd.func17, Tryd.ntmps17
  go_wp2_with (first
    | (at_builtin
       refine Does.list rfl (does_append (.tmp 28) (.tmp 29) 22 rfl w.heap.size 5 (.int .u8 0) 1 Tryd.underlying22 info_byte rfl _ 2 _ rfl (own_new2 w 5 _ _) A len cap (bvs l) rfl (HR.out.fr0 (Fr.refl.alloc _)) (bvs_one _) (by unfold maxLen; omega) (by omega) (by simp)) ?_
       rintro v1 w1 ⟨ho, hg, _⟩
       have HF := Lib.hid (Fr.app (S := Nowhere) (Fr.refl.alloc _) (own_new2 w 5 _ _) (Nat.le_refl _) hg)
       rw [← head2_bvs l len HL.out hlen, ← bvs_append] at ho
       have HO := Lib.hid ho
       clear ho hg)
    | fail)
  clear HR
  go_loopw [6] (fun v wr => ∃ (A' : Option Addr) (m c : Nat), 2 + len ≤ m ∧ m ≤ 504 ∧ v = .slice A' m c ∧ wr.ownsRow w.heap.size 5 1 (.slice A' m c) m (bvs (head2 l ++ l ++ List.replicate (m - (2 + len)) 0)) ∧ Fr0 w wr) (fun v _ => 504 - sliceLen v)
  case atStart =>
    obtain ⟨A', c, rfl, _⟩ := own_form HO.out
    refine ⟨A', 2 + len, c, by omega, by omega, rfl, ?_, HF.out⟩
    simpa using HO.out
  case round =>
    obtain ⟨A', m, c, hm1, hm2, rfl, ho, hf⟩ := hrel
    clear HO HF
    have HO := Lib.hid ho
    have HF := Lib.hid hf
    clear ho hf
    by_cases hlt : m < 504
    · go_wp2_with (first
        | (at_builtin
           refine Does.list rfl (does_append (.tmp 34) (.tmp 35) 22 rfl w.heap.size 5 (.int .u8 0) 1 Tryd.underlying22 info_byte rfl _ m _ rfl (HO.out.alloc _) (some ⟨wr.heap.size, 0, none⟩) 1 1 [.int .u8 0] rfl (rd_new1 _ _ _) (by simp [Value.oneCell']) (by unfold maxLen; omega) (by omega) (by have := HF.out.size; simp; omega)) ?_
           rintro v w2 ⟨ho, hg, _⟩
           have HO1 := Lib.hid ho
           have HF1 := Lib.hid (Fr.app (HF.out.alloc _) (HO.out.alloc _) (Nat.le_refl _) hg)
           clear ho hg)
        | fail)
      obtain ⟨A2, c2, rfl, _⟩ := own_form HO1.out
      go_roundw
      case rel =>
        refine ⟨A2, m + 1, c2, by omega, by omega, rfl, ?_, HF1.out⟩
        have h := HO1.out
        rw [show m + 1 - (2 + len) = (m - (2 + len)) + 1 from by omega, List.replicate_succ', ← List.append_assoc, bvs_append]
        exact h
      case measure => simp [sliceLen]; omega
    · obtain rfl : m = 504 := by omega
      replace HO : Hid (wr.ownsRow w.heap.size 5 1 (.slice A' 504 c) 504 (bvs (tailOf l))) := by
        have h := HO.out
        rw [show head2 l ++ l ++ List.replicate (504 - (2 + len)) 0 = tailOf l from by
          rw [show 504 - (2 + len) = 502 - l.length from by rw [HL.out]; omega]; simp [head2, tailOf]] at h
        exact Lib.hid h
      go_wp2_with fail
      refine (refEight_any n _ (by unfold M64; omega)).mono ?_
      rintro e w2 ⟨v8, rfl, ho, hf⟩
      have HOT := Lib.hid (own_fr HO.out hf (fun _ _ h => h))
      have HLT := Lib.hid (fun k hk => (HO.out.lt k hk).2)
      have H8 := Lib.hid ho
      have HF2 := Lib.hid (HF.out.then0 hf)
      have hsz : w.heap.size ≤ wr.heap.size := HF.out.size
      have hsz2 : wr.heap.size ≤ w2.heap.size := hf.size
      obtain ⟨A4, c4, e4, _, _, hrd, hat⟩ := own_form HOT.out
      injection e4 with e4 _ e4c
      subst e4; subst e4c
      have HRD := Lib.hid hrd
      clear ho hf hrd hat HO HF
      go_wp2_with (first
        | (at_builtin
           refine Does.list rfl (does_append (.tmp 39) (.tmp 40) 22 rfl wr.heap.size 5 (.int .u8 0) 1 Tryd.underlying22 info_byte rfl _ 8 (bvs (be8 n)) rfl H8.out A' 504 c (bvs (tailOf l)) rfl HRD.out (bvs_one _) (by unfold maxLen; omega) (by omega) (by omega)) ?_
           rintro va w3 ⟨ho, hg, _⟩
           have HF3 := Lib.hid (Fr.app HF2.out H8.out hsz hg)
           have HOT3 := Lib.hid (own_apart HOT.out HLT.out H8.out hg)
           have hsz3 : w2.heap.size ≤ w3.heap.size := hg.size
           rw [← bvs_append] at ho
           have HOA := Lib.hid ho
           clear ho hg HOT HRD H8)
        | fail)
      obtain ⟨Aa, ca, rfl, _, _, hrd, _⟩ := own_form HOA.out
      refine (refSum_any Aa _ ca (be8 n ++ tailOf l) _ (by omega) hrd).mono ?_
      rintro e w4 ⟨rfl, rfl⟩
      clear hrd
      have HE := Lib.hid (show fnv fnv0 (be8 n ++ tailOf l) = pageSum n (tailOf l) from fnv_append _ _ _)
      rw [HE.out]
      go_wp2_with fail
      refine (refEight_any (pageSum n (tailOf l)) _ (pageSum_lt _ _)).mono ?_
      rintro e w5 ⟨v9, rfl, ho, hf⟩
      have HOT5 := Lib.hid (own_fr HOT3.out hf (fun _ _ h => h))
      have H9 := Lib.hid ho
      have HF5 := Lib.hid (HF3.out.then0 hf)
      have hsz5 : w3.heap.size ≤ w5.heap.size := hf.size
      obtain ⟨A4, c4, e4, _, _, hrd, hat⟩ := own_form HOT5.out
      injection e4 with e4 _ e4c
      subst e4; subst e4c
      have HRD := Lib.hid hrd
      clear ho hf hrd hat HOT3 HOA
      go_wp2_with (first
        | (at_builtin
           refine Does.list rfl (does_append (.tmp 44) (.tmp 45) 22 rfl w3.heap.size 5 (.int .u8 0) 1 Tryd.underlying22 info_byte rfl _ 8 _ rfl H9.out A' 504 c (bvs (tailOf l)) rfl HRD.out (bvs_one _) (by unfold maxLen; omega) (by omega) (by omega)) ?_
           rintro vz w6 ⟨ho, hg, _⟩
           have HF6 := Lib.hid (Fr.app HF5.out H9.out (by omega) hg)
           rw [← bvs_append] at ho
           have HOZ := Lib.hid (own_base ho (show w.heap.size ≤ w3.heap.size by omega))
           clear ho hg)
        | fail)
      go_ret2
      exact ⟨vz, rfl, HOZ.out, HF6.out⟩

theorem refEncode_no (n : Int) (A : Option Addr) (len cap : Nat) (w : World) (h : n < 0 ∨ 16383 < n ∨ 502 < len) :
    Calls Tryd.prog 17 #[.int .i64 n, .slice A len cap] w fun e w' =>
      e = .returned (.tuple #[.slice none 0 0, .int .i64 1]) ∧ w = w' := by
  by_cases h1 : n < 0
  · clear h
    go_enter Tryd.func17, Tryd.ntmps17
    go_wp2
    go_ret2
    exact ⟨rfl, rfl⟩
  · by_cases h2 : 16383 < n
    · clear h
      go_enter Tryd.func17, Tryd.ntmps17
      go_wp2
      go_ret2
      exact ⟨rfl, rfl⟩
    · have h3 : 502 < len := by omega
      clear h
      go_enter Tryd.func17, Tryd.ntmps17
      go_wp2
      go_ret2
      exact ⟨rfl, rfl⟩
end Go.Proofs.YtnkodmkoomifaaaDoor
