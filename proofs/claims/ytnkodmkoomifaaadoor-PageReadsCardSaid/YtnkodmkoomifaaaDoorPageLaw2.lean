/- The law PageReads, walked. -/
import Derived.Test.YtnkodmkoomifaaaDoorPageRef3
namespace Go.Proofs.YtnkodmkoomifaaaDoor
open Go.RowKit

set_option maxRecDepth 100000 in
set_option maxHeartbeats 2000000 in
theorem pageReads_yes (n : Nat) (A : Option Addr) (cap : Nat) (p : List UInt8) (w : World) (hn : n ≤ 16383) (hcap : 512 ≤ cap) (hr : Rd w A 512 (bvs p)) (hyp : DecOk n p) :
    Calls Tryd.prog 3 #[.int .i64 (n : Int), .slice A 512 cap] w fun e w' => e = .returned (.bool true) ∧ Fr0 w w' := by
  have HR := Lib.hid hr
  have HY := Lib.hid hyp
  clear hr hyp
  go_enter Tryd.func3, Tryd.ntmps3
  go_wp2_with (first
    | (at_builtin
       refine Does.list rfl (does_append (.tmp 11) (.tmp 12) 22 rfl w.heap.size 5 (.int .u8 0) 1 Tryd.underlying22 info_byte rfl _ 0 [] rfl (own_new0 w 5) A 512 cap (bvs p) rfl (HR.out.fr0 (Fr.refl.alloc _)) (bvs_one _) (by unfold maxLen; omega) (by omega) (by simp)) ?_
       rintro vi w1 ⟨ho, hg, _⟩
       have HF := Lib.hid (Fr.app (S := Nowhere) (Fr.refl.alloc _) (own_new0 w 5) (Nat.le_refl _) hg)
       rw [Nat.zero_add, List.nil_append] at ho
       have HI := Lib.hid ho
       clear ho hg)
    | fail)
  obtain ⟨Ai, ci, rfl, hci, _, hrd, _⟩ := own_form HI.out
  have HRI := Lib.hid hrd; have HTI := Lib.hid (hrd.lt (by omega))
  clear hrd HI
  refine (decode_yes n Ai ci p w1 hn hci HRI.out HY.out).mono ?_
  rintro e w2 ⟨⟨vp, rfl, ho⟩, hf⟩
  have HOP := Lib.hid ho
  have hs1 : w.heap.size ≤ w1.heap.size := HF.out.size
  replace HRI := Lib.hid (HRI.out.fr0 hf)
  replace HF := Lib.hid (HF.out.then0 hf)
  have HLT := Lib.hid (fun k hk => (ho.lt k hk).2)
  clear ho hf
  go_wp2_with fail
  refine (refDecode_yes n A cap p w2 hn hcap (HR.out.fr0 HF.out) HY.out).mono ?_
  rintro e w3 ⟨⟨vq, rfl, ho⟩, hf⟩
  obtain ⟨Aq, cq, rfl, _, _, hrd, hatq⟩ := own_form ho
  have HRQ := Lib.hid hrd; have HTQ := Lib.hid hatq
  have hs3 : w2.heap.size ≤ w3.heap.size := hf.size
  replace HRI := Lib.hid (HRI.out.fr0 hf)
  replace HF := Lib.hid (HF.out.then0 hf)
  replace HOP := Lib.hid (own_fr HOP.out hf (fun _ _ h => h))
  clear ho hf hrd hatq
  have HLO := Lib.hid HY.out.1
  generalize longOf p = m at *
  have hm5 : m ≤ 502 := HLO.out
  generalize outOf p = out at *
  obtain ⟨Ap, cp, rfl, _, _, hrdp, hatp⟩ := own_form HOP.out
  have HRP := Lib.hid hrdp; have HTP := Lib.hid hatp
  clear hrdp hatp
  have hc1 := run_str (P := Tryd.prog) w3 22 9 5 Tryd.underlying22 Tryd.underlying5 Tryd.underlying9 Ap m cp out HRP.out
  have hc2 := run_str (P := Tryd.prog) w3 22 9 5 Tryd.underlying22 Tryd.underlying5 Tryd.underlying9 Aq m cq out HRQ.out
  have hc3 := run_str (P := Tryd.prog) w3 22 9 5 Tryd.underlying22 Tryd.underlying5 Tryd.underlying9 Ai 512 ci p HRI.out
  have hc4 := run_str (P := Tryd.prog) w3 22 9 5 Tryd.underlying22 Tryd.underlying5 Tryd.underlying9 A 512 cap p (HR.out.fr0 HF.out)
  unfold str at hc1 hc2 hc3 hc4
  go_wp2_with fail
  clear hc1 hc2 hc3 hc4
  go_loopw [10] (fun i wr => ∃ k : Nat, k ≤ m ∧ i = .int .i64 k ∧ (∃ xs, wr.ownsRow w1.heap.size 5 1 (.slice Ap m cp) m xs) ∧ Fr (fun b => ∃ off, Ap = some ⟨b, off, none⟩) w3 wr) (fun i _ => m - (intOf i).toNat)
  case atStart => exact ⟨0, by omega, rfl, ⟨_, HOP.out⟩, Fr.refl⟩
  case round =>
    obtain ⟨k, hk, rfl, ⟨xs, ho⟩, hf⟩ := hrel
    have HO := Lib.hid ho
    have HFR := Lib.hid hf
    clear ho hf
    by_cases hlt : k < m
    · obtain ⟨g, c', rest, e, hgb, hcc, hb, hlb⟩ := own_blk HO.out (by omega)
      injection e with e1 _ e2
      subst e1; subst e2
      obtain ⟨u, hcu⟩ : ∃ u, wr.cell? ⟨g, k, none⟩ = some u := ⟨_, (hb.cell k).trans (List.getElem?_eq_getElem (by omega))⟩
      have hfu := hb.frozen k
      clear hb hlb
      go_wp2
      go_roundw
      case rel => exact ⟨k + 1, by omega, by go_num, ⟨_, (HO.out.stored k _).1⟩, HFR.out.setCell (fun _ => ⟨0, rfl⟩) _⟩
      case measure => simp [intOf]; omega
    · have HRI' := Lib.hid (HRI.out.fr HFR.out (fun h0 b off e h => by
        obtain ⟨o2, h⟩ := h
        have h1 := HTI.out b off e
        have h2 := (HTP.out b o2 h).1
        omega))
      have HF' := Lib.hid (HF.out.step HFR.out (fun k hk h => by
        obtain ⟨o2, h⟩ := h
        have h2 := (HTP.out k o2 h).1
        omega))
      have hc3 := run_str (P := Tryd.prog) wr 22 9 5 Tryd.underlying22 Tryd.underlying5 Tryd.underlying9 Ai 512 ci p HRI'.out
      have hc4 := run_str (P := Tryd.prog) wr 22 9 5 Tryd.underlying22 Tryd.underlying5 Tryd.underlying9 A 512 cap p (HR.out.fr0 HF'.out)
      unfold str at hc3 hc4
      go_wp2
      go_ret
      exact ⟨rfl, HF'.out⟩

set_option maxRecDepth 100000 in
set_option maxHeartbeats 2000000 in
/-- Where both refuse. -/
theorem pageReads_no (n : Int) (A : Option Addr) (len cap : Nat) (p : List UInt8) (w : World) (er : Int) (hm : len ≤ 140737488351232) (hcap : len ≤ cap) (hr : Rd w A len (bvs p))
    (hd : ∀ (A : Option Addr) (cap : Nat) (w : World), len ≤ cap → Rd w A len (bvs p) → Calls Tryd.prog 9 #[.int .i64 n, .slice A len cap] w fun e w' => e = .returned (.tuple #[.slice none 0 0, .int .i64 er]) ∧ Fr0 w w')
    (hrd : ∀ (A : Option Addr) (cap : Nat) (w : World), len ≤ cap → Rd w A len (bvs p) → Calls Tryd.prog 10 #[.int .i64 n, .slice A len cap] w fun e w' => e = .returned (.tuple #[.slice none 0 0, .int .i64 er]) ∧ Fr0 w w') :
    Calls Tryd.prog 3 #[.int .i64 n, .slice A len cap] w fun e w' => e = .returned (.bool true) ∧ Fr0 w w' := by
  have HR := Lib.hid hr
  have HD := Lib.hid hd
  have HRD := Lib.hid hrd
  clear hr hd hrd
  go_enter Tryd.func3, Tryd.ntmps3
  go_wp2_with (first
    | (at_builtin
       refine Does.list rfl (does_append (.tmp 11) (.tmp 12) 22 rfl w.heap.size 5 (.int .u8 0) 1 Tryd.underlying22 info_byte rfl _ 0 [] rfl (own_new0 w 5) A len cap (bvs p) rfl (HR.out.fr0 (Fr.refl.alloc _)) (bvs_one _) (by unfold maxLen; omega) (by omega) (by simp)) ?_
       rintro vi w1 ⟨ho, hg, _⟩
       have HF := Lib.hid (Fr.app (S := Nowhere) (Fr.refl.alloc _) (own_new0 w 5) (Nat.le_refl _) hg)
       rw [Nat.zero_add, List.nil_append] at ho
       have HI := Lib.hid ho
       clear ho hg)
    | fail)
  obtain ⟨Ai, ci, rfl, hci, _, hrd, _⟩ := own_form HI.out
  have HRI := Lib.hid hrd
  clear hrd HI
  refine (HD.out Ai ci w1 hci HRI.out).mono ?_
  rintro e w2 ⟨rfl, hf⟩
  replace HRI := Lib.hid (HRI.out.fr0 hf)
  replace HF := Lib.hid (HF.out.then0 hf)
  clear hf
  go_wp2_with fail
  refine (HRD.out A cap w2 hcap (HR.out.fr0 HF.out)).mono ?_
  rintro e w3 ⟨rfl, hf⟩
  replace HRI := Lib.hid (HRI.out.fr0 hf)
  replace HF := Lib.hid (HF.out.then0 hf)
  clear hf
  have hc0 := run_str (P := Tryd.prog) w3 22 9 5 Tryd.underlying22 Tryd.underlying5 Tryd.underlying9 none 0 0 [] Rd.nil
  have hc3 := run_str (P := Tryd.prog) w3 22 9 5 Tryd.underlying22 Tryd.underlying5 Tryd.underlying9 Ai len ci p HRI.out
  have hc4 := run_str (P := Tryd.prog) w3 22 9 5 Tryd.underlying22 Tryd.underlying5 Tryd.underlying9 A len cap p (HR.out.fr0 HF.out)
  unfold str at hc0 hc3 hc4
  go_wp2_with fail
  refine wp_loop_rounds 1 ?_
  rw [rounds_succ]
  go_wp2
  go_ret
  exact ⟨rfl, HF.out⟩

theorem pageReads_walk (a0 : Int) (a1 : Option Addr) (len1 cap1 : Nat) (l : List UInt8) (w : World) (hr : Rd w a1 len1 (bvs l)) (hc : len1 ≤ cap1) (hm : cap1 ≤ 140737488351232) :
    Calls Tryd.prog 3 #[.int .i64 a0, .slice a1 len1 cap1] w fun e w' => e = .returned (.bool true) ∧ Below w.heap.size w w' := by
  by_cases h : a0 < 0 ∨ 16383 < a0 ∨ len1 ≠ 512
  · exact (pageReads_no a0 a1 len1 cap1 l w 1 (by omega) hc hr (fun A c w _ _ => (decode_arg a0 A len1 c w h).mono fun e w' ⟨he, hw⟩ => ⟨he, hw ▸ Fr.refl⟩)
      (fun A c w _ _ => (refDecode_arg a0 A len1 c w h).mono fun e w' ⟨he, hw⟩ => ⟨he, hw ▸ Fr.refl⟩)).mono fun e w' ⟨he, hf⟩ => ⟨he, hf.below⟩
  · obtain ⟨n, rfl⟩ := Int.eq_ofNat_of_zero_le (show 0 ≤ a0 by omega)
    obtain rfl : len1 = 512 := by omega
    by_cases hd : DecOk n l
    · exact (pageReads_yes n a1 cap1 l w (by omega) hc hr hd).mono fun e w' ⟨he, hf⟩ => ⟨he, hf.below⟩
    · exact (pageReads_no n a1 512 cap1 l w 30 (by omega) hc hr (fun A c w hcc hrr => decode_no n A c l w (by omega) hcc hrr hd)
        (fun A c w hcc hrr => refDecode_no n A c l w (by omega) hcc hrr hd)).mono fun e w' ⟨he, hf⟩ => ⟨he, hf.below⟩
end Go.Proofs.YtnkodmkoomifaaaDoor
