/- The laws PageBack, PageByte and PageNumber, walked. -/
import Derived.Test.YtnkodmkoomifaaaDoorPageWorks
namespace Go.Proofs.YtnkodmkoomifaaaDoor
open Go.RowKit

set_option maxRecDepth 100000 in
set_option maxHeartbeats 2000000 in
theorem pageBack_yy (n : Nat) (A1 : Option Addr) (len1 cap1 : Nat) (b : List UInt8) (A2 : Option Addr) (len2 cap2 : Nat) (p : List UInt8) (w : World) (hr1 : Rd w A1 len1 (bvs b)) (hr2 : Rd w A2 len2 (bvs p)) (hn : n ≤ 16383) (hb : len1 ≤ 502) (hl2 : len2 = 512) (hc2 : 512 ≤ cap2) (hd : DecOk n p) :
    Calls Tryd.prog 5 #[.int .i64 (n : Int), .slice A1 len1 cap1, .slice A2 len2 cap2] w fun e w' => e = .returned (.bool true) ∧ Fr0 w w' := by
  subst hl2
  have HR1 := Lib.hid hr1
  have HR2 := Lib.hid hr2
  have HD := Lib.hid hd
  clear hr1 hr2 hd
  go_enter Tryd.func5, Tryd.ntmps5
  go_wp2_with fail
  refine (works_any _).mono ?_
  rintro e w1 ⟨rfl, hf⟩
  have HF := Lib.hid hf
  clear hf
  go_wp2_with fail
  refine (encode_ok n A1 len1 cap1 b w1 hn hb (HR1.out.fr0 HF.out)).mono ?_
  rintro e w2 ⟨vq, rfl, ho, hf⟩
  obtain ⟨Aq, cq, rfl, hcq, _, hrd, _⟩ := own_form ho
  have HRQ := Lib.hid hrd
  replace HF := Lib.hid (HF.out.then0 hf)
  clear ho hf hrd
  have HBL := Lib.hid (show b.length = len1 by rw [← bvs_length, HR1.out.1])
  have HOK := Lib.hid (page_ok n b (by rw [HBL.out]; exact hb))
  have HLO := Lib.hid ((page_long n b (by rw [HBL.out]; exact hb)).trans HBL.out)
  have HOU := Lib.hid (show outOf (pageOf n b) = b by unfold outOf; rw [HLO.out, ← HBL.out]; exact page_out n b)
  generalize pageOf n b = pg at *
  go_wp2_with fail
  refine (decode_yes n Aq cq pg w2 hn hcq HRQ.out HOK.out).mono ?_
  rintro e w3 ⟨⟨vb, rfl, ho⟩, hf⟩
  rw [HLO.out, HOU.out] at ho
  obtain ⟨Ab, cb, rfl, _, _, hrd, _⟩ := own_form ho
  replace HF := Lib.hid (HF.out.then0 hf)
  have hc1 := run_str (P := Tryd.prog) w3 22 9 5 Tryd.underlying22 Tryd.underlying5 Tryd.underlying9 Ab len1 cb b hrd
  have hc2s := run_str (P := Tryd.prog) w3 22 9 5 Tryd.underlying22 Tryd.underlying5 Tryd.underlying9 A1 len1 cap1 b (HR1.out.fr0 HF.out)
  unfold str at hc1 hc2s
  clear ho hf hrd HRQ
  go_wp2_with fail
  clear hc1 hc2s
  refine (decode_yes n A2 cap2 p w3 hn hc2 (HR2.out.fr0 HF.out) HD.out).mono ?_
  rintro e w4 ⟨⟨vd, rfl, ho⟩, hf⟩
  obtain ⟨Ad, cd, rfl, _, _, hrd, _⟩ := own_form ho
  have HRD := Lib.hid hrd
  replace HF := Lib.hid (HF.out.then0 hf)
  clear ho hf hrd
  have HPL := Lib.hid (show p.length = 512 by rw [← bvs_length, HR2.out.1])
  have HEQ := Lib.hid (show pageOf n (outOf p) = p from ((decOk_iff n p HPL.out).1 HD.out).2)
  have hlo : longOf p ≤ 502 := HD.out.1
  generalize longOf p = m at *
  generalize outOf p = out at *
  go_wp2_with fail
  refine (encode_ok n Ad m cd out w4 hn hlo HRD.out).mono ?_
  rintro e w5 ⟨vz, rfl, ho, hf⟩
  rw [HEQ.out] at ho
  obtain ⟨Az, cz, rfl, _, _, hrd, _⟩ := own_form ho
  replace HF := Lib.hid (HF.out.then0 hf)
  have hc1 := run_str (P := Tryd.prog) w5 22 9 5 Tryd.underlying22 Tryd.underlying5 Tryd.underlying9 Az 512 cz p hrd
  have hc2s := run_str (P := Tryd.prog) w5 22 9 5 Tryd.underlying22 Tryd.underlying5 Tryd.underlying9 A2 512 cap2 p (HR2.out.fr0 HF.out)
  unfold str at hc1 hc2s
  clear ho hf hrd
  go_wp2
  go_ret
  exact ⟨rfl, HF.out⟩

set_option maxRecDepth 100000 in
set_option maxHeartbeats 2000000 in
theorem pageBack_yn (n : Nat) (A1 : Option Addr) (len1 cap1 : Nat) (b : List UInt8) (A2 : Option Addr) (len2 cap2 : Nat) (p : List UInt8) (w : World) (hr1 : Rd w A1 len1 (bvs b)) (hr2 : Rd w A2 len2 (bvs p)) (hn : n ≤ 16383) (hb : len1 ≤ 502) (er : Int) (her : er = 1 ∨ er = 30) (hd : ∀ (w : World), Rd w A2 len2 (bvs p) → Calls Tryd.prog 9 #[.int .i64 (n : Int), .slice A2 len2 cap2] w fun e w' => e = .returned (.tuple #[.slice none 0 0, .int .i64 er]) ∧ Fr0 w w') :
    Calls Tryd.prog 5 #[.int .i64 (n : Int), .slice A1 len1 cap1, .slice A2 len2 cap2] w fun e w' => e = .returned (.bool true) ∧ Fr0 w w' := by
  have her0 : ((er : Int) != 0) = true := by rw [bne_iff_ne]; omega
  clear her
  have HR1 := Lib.hid hr1
  have HR2 := Lib.hid hr2
  have HD := Lib.hid hd
  clear hr1 hr2 hd
  go_enter Tryd.func5, Tryd.ntmps5
  go_wp2_with fail
  refine (works_any _).mono ?_
  rintro e w1 ⟨rfl, hf⟩
  have HF := Lib.hid hf
  clear hf
  go_wp2_with fail
  refine (encode_ok n A1 len1 cap1 b w1 hn hb (HR1.out.fr0 HF.out)).mono ?_
  rintro e w2 ⟨vq, rfl, ho, hf⟩
  obtain ⟨Aq, cq, rfl, hcq, _, hrd, _⟩ := own_form ho
  have HRQ := Lib.hid hrd
  replace HF := Lib.hid (HF.out.then0 hf)
  clear ho hf hrd
  have HBL := Lib.hid (show b.length = len1 by rw [← bvs_length, HR1.out.1])
  have HOK := Lib.hid (page_ok n b (by rw [HBL.out]; exact hb))
  have HLO := Lib.hid ((page_long n b (by rw [HBL.out]; exact hb)).trans HBL.out)
  have HOU := Lib.hid (show outOf (pageOf n b) = b by unfold outOf; rw [HLO.out, ← HBL.out]; exact page_out n b)
  generalize pageOf n b = pg at *
  go_wp2_with fail
  refine (decode_yes n Aq cq pg w2 hn hcq HRQ.out HOK.out).mono ?_
  rintro e w3 ⟨⟨vb, rfl, ho⟩, hf⟩
  rw [HLO.out, HOU.out] at ho
  obtain ⟨Ab, cb, rfl, _, _, hrd, _⟩ := own_form ho
  replace HF := Lib.hid (HF.out.then0 hf)
  have hc1 := run_str (P := Tryd.prog) w3 22 9 5 Tryd.underlying22 Tryd.underlying5 Tryd.underlying9 Ab len1 cb b hrd
  have hc2s := run_str (P := Tryd.prog) w3 22 9 5 Tryd.underlying22 Tryd.underlying5 Tryd.underlying9 A1 len1 cap1 b (HR1.out.fr0 HF.out)
  unfold str at hc1 hc2s
  clear ho hf hrd HRQ
  go_wp2_with fail
  clear hc1 hc2s
  refine (HD.out w3 (HR2.out.fr0 HF.out)).mono ?_
  rintro e w4 ⟨rfl, hf⟩
  replace HF := Lib.hid (HF.out.then0 hf)
  clear hf
  go_wp2
  go_ret
  exact ⟨rfl, HF.out⟩

set_option maxRecDepth 100000 in
set_option maxHeartbeats 2000000 in
theorem pageBack_ny (n : Nat) (A1 : Option Addr) (len1 cap1 : Nat) (b : List UInt8) (A2 : Option Addr) (len2 cap2 : Nat) (p : List UInt8) (w : World) (hr1 : Rd w A1 len1 (bvs b)) (hr2 : Rd w A2 len2 (bvs p)) (hn : n ≤ 16383) (he : ∀ (w : World), Calls Tryd.prog 13 #[.int .i64 (n : Int), .slice A1 len1 cap1] w fun e w' => e = .returned (.tuple #[.slice none 0 0, .int .i64 1]) ∧ w = w') (hl2 : len2 = 512) (hc2 : 512 ≤ cap2) (hd : DecOk n p) :
    Calls Tryd.prog 5 #[.int .i64 (n : Int), .slice A1 len1 cap1, .slice A2 len2 cap2] w fun e w' => e = .returned (.bool true) ∧ Fr0 w w' := by
  subst hl2
  have HR1 := Lib.hid hr1
  have HR2 := Lib.hid hr2
  have HD := Lib.hid hd
  clear hr1 hr2 hd
  have HE := Lib.hid he
  clear he
  go_enter Tryd.func5, Tryd.ntmps5
  go_wp2_with fail
  refine (works_any _).mono ?_
  rintro e w1 ⟨rfl, hf⟩
  have HF := Lib.hid hf
  clear hf
  go_wp2_with fail
  refine (HE.out w1).mono ?_
  rintro e _ ⟨rfl, rfl⟩
  go_wp2_with fail
  refine (decode_yes n A2 cap2 p w1 hn hc2 (HR2.out.fr0 HF.out) HD.out).mono ?_
  rintro e w4 ⟨⟨vd, rfl, ho⟩, hf⟩
  obtain ⟨Ad, cd, rfl, _, _, hrd, _⟩ := own_form ho
  have HRD := Lib.hid hrd
  replace HF := Lib.hid (HF.out.then0 hf)
  clear ho hf hrd
  have HPL := Lib.hid (show p.length = 512 by rw [← bvs_length, HR2.out.1])
  have HEQ := Lib.hid (show pageOf n (outOf p) = p from ((decOk_iff n p HPL.out).1 HD.out).2)
  have hlo : longOf p ≤ 502 := HD.out.1
  generalize longOf p = m at *
  generalize outOf p = out at *
  go_wp2_with fail
  refine (encode_ok n Ad m cd out w4 hn hlo HRD.out).mono ?_
  rintro e w5 ⟨vz, rfl, ho, hf⟩
  rw [HEQ.out] at ho
  obtain ⟨Az, cz, rfl, _, _, hrd, _⟩ := own_form ho
  replace HF := Lib.hid (HF.out.then0 hf)
  have hc1 := run_str (P := Tryd.prog) w5 22 9 5 Tryd.underlying22 Tryd.underlying5 Tryd.underlying9 Az 512 cz p hrd
  have hc2s := run_str (P := Tryd.prog) w5 22 9 5 Tryd.underlying22 Tryd.underlying5 Tryd.underlying9 A2 512 cap2 p (HR2.out.fr0 HF.out)
  unfold str at hc1 hc2s
  clear ho hf hrd
  go_wp2
  go_ret
  exact ⟨rfl, HF.out⟩

set_option maxRecDepth 100000 in
set_option maxHeartbeats 2000000 in
theorem pageBack_nn (n : Int) (A1 : Option Addr) (len1 cap1 : Nat) (b : List UInt8) (A2 : Option Addr) (len2 cap2 : Nat) (p : List UInt8) (w : World) (hr1 : Rd w A1 len1 (bvs b)) (hr2 : Rd w A2 len2 (bvs p)) (he : ∀ (w : World), Calls Tryd.prog 13 #[.int .i64 n, .slice A1 len1 cap1] w fun e w' => e = .returned (.tuple #[.slice none 0 0, .int .i64 1]) ∧ w = w') (er : Int) (her : er = 1 ∨ er = 30) (hd : ∀ (w : World), Rd w A2 len2 (bvs p) → Calls Tryd.prog 9 #[.int .i64 n, .slice A2 len2 cap2] w fun e w' => e = .returned (.tuple #[.slice none 0 0, .int .i64 er]) ∧ Fr0 w w') :
    Calls Tryd.prog 5 #[.int .i64 n, .slice A1 len1 cap1, .slice A2 len2 cap2] w fun e w' => e = .returned (.bool true) ∧ Fr0 w w' := by
  have her0 : ((er : Int) != 0) = true := by rw [bne_iff_ne]; omega
  clear her
  have HR1 := Lib.hid hr1
  have HR2 := Lib.hid hr2
  have HD := Lib.hid hd
  clear hr1 hr2 hd
  have HE := Lib.hid he
  clear he
  go_enter Tryd.func5, Tryd.ntmps5
  go_wp2_with fail
  refine (works_any _).mono ?_
  rintro e w1 ⟨rfl, hf⟩
  have HF := Lib.hid hf
  clear hf
  go_wp2_with fail
  refine (HE.out w1).mono ?_
  rintro e _ ⟨rfl, rfl⟩
  go_wp2_with fail
  refine (HD.out w1 (HR2.out.fr0 HF.out)).mono ?_
  rintro e w4 ⟨rfl, hf⟩
  replace HF := Lib.hid (HF.out.then0 hf)
  clear hf
  go_wp2
  go_ret
  exact ⟨rfl, HF.out⟩

theorem pageBack_walk (a0 : Int) (a1 : Option Addr) (len1 cap1 : Nat) (b : List UInt8) (a2 : Option Addr) (len2 cap2 : Nat) (p : List UInt8) (w : World) (hr1 : Rd w a1 len1 (bvs b)) (hr2 : Rd w a2 len2 (bvs p)) (hc2 : len2 ≤ cap2) :
    Calls Tryd.prog 5 #[.int .i64 a0, .slice a1 len1 cap1, .slice a2 len2 cap2] w fun e w' => e = .returned (.bool true) ∧ Below w.heap.size w w' := by
  by_cases h : a0 < 0 ∨ 16383 < a0
  · exact (pageBack_nn a0 a1 len1 cap1 b a2 len2 cap2 p w hr1 hr2 (fun w => encode_no a0 a1 len1 cap1 w (by omega)) 1 (.inl rfl)
      (fun w _ => (decode_arg a0 a2 len2 cap2 w (by omega)).mono fun e w' ⟨he, hw⟩ => ⟨he, hw ▸ Fr.refl⟩)).mono fun e w' ⟨he, hf⟩ => ⟨he, hf.below⟩
  · obtain ⟨n, rfl⟩ := Int.eq_ofNat_of_zero_le (show 0 ≤ a0 by omega)
    have hn : n ≤ 16383 := by omega
    by_cases hy : len2 = 512 ∧ DecOk n p
    · obtain ⟨rfl, hd⟩ := hy
      by_cases hb : len1 ≤ 502
      · exact (pageBack_yy n a1 len1 cap1 b a2 512 cap2 p w hr1 hr2 hn hb rfl hc2 hd).mono fun e w' ⟨he, hf⟩ => ⟨he, hf.below⟩
      · exact (pageBack_ny n a1 len1 cap1 b a2 512 cap2 p w hr1 hr2 hn (fun w => encode_no n a1 len1 cap1 w (by omega)) rfl hc2 hd).mono fun e w' ⟨he, hf⟩ => ⟨he, hf.below⟩
    · obtain ⟨er, her, hd⟩ : ∃ er : Int, (er = 1 ∨ er = 30) ∧ ∀ (w : World), Rd w a2 len2 (bvs p) → Calls Tryd.prog 9 #[.int .i64 (n : Int), .slice a2 len2 cap2] w fun e w' => e = .returned (.tuple #[.slice none 0 0, .int .i64 er]) ∧ Fr0 w w' := by
        by_cases h2 : len2 = 512
        · subst h2
          exact ⟨30, .inr rfl, fun w hr => decode_no n a2 cap2 p w hn hc2 hr (fun hd => hy ⟨rfl, hd⟩)⟩
        · exact ⟨1, .inl rfl, fun w _ => (decode_arg n a2 len2 cap2 w (by omega)).mono fun e w' ⟨he, hw⟩ => ⟨he, hw ▸ Fr.refl⟩⟩
      by_cases hb : len1 ≤ 502
      · exact (pageBack_yn n a1 len1 cap1 b a2 len2 cap2 p w hr1 hr2 hn hb er her hd).mono fun e w' ⟨he, hf⟩ => ⟨he, hf.below⟩
      · exact (pageBack_nn n a1 len1 cap1 b a2 len2 cap2 p w hr1 hr2 (fun w => encode_no n a1 len1 cap1 w (by omega)) er her hd).mono fun e w' ⟨he, hf⟩ => ⟨he, hf.below⟩

end Go.Proofs.YtnkodmkoomifaaaDoor
