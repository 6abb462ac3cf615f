/- The law PageWrites, walked. -/
import Derived.Test.YtnkodmkoomifaaaPageRef2
import Derived.Laws.BytesArg
namespace Go.Proofs.Ytnkodmkoomifaaa
open Go.RowKit

def str (l : List UInt8) : Value := .string ⟨l.toArray⟩
theorem run_str {P : Program} (w : World) (src dst e : TypeId) (hs : P.underlying src = some (.slice e)) (he : P.underlying e = some (.int .u8)) (hd : P.underlying dst = some .string)
    (A : Option Addr) (n c : Nat) (l : List UInt8) (hr : Rd w A n (bvs l)) :
    (convert src dst (.slice A n c)).run P w = .ok (str l) w := by
  have hl : l.length = n := by rw [← bvs_length, hr.1]
  rcases Nat.eq_zero_or_pos n with h0 | h0
  · have hx : l = [] := List.eq_nil_of_length_eq_zero (by omega)
    subst hx; subst h0
    rcases A with _ | a
    · rw [run_convert_bytes_nil w src e hs he 0 c dst hd]; rfl
    · rw [run_convert_bytes_string w src dst e _ 0 c hs he hd, run_bytesToString w a 0 c [] (by simp [loadCells, loadCellsFrom])]; rfl
  · obtain ⟨b, off, rfl, _⟩ := hr.2 h0
    have := run_convert_bytes_arg (P := P) w src e hs he b off n c (l.map fun x => (x.toNat : Int)) (by simpa using hl) (fun i hi => by
      obtain ⟨b', off', e', u, hu, hc⟩ := hr.at_ hi
      injection e' with e'; injection e' with e1 e2 _; subst e1; subst e2
      rw [hc]
      have hil : i < l.length := by omega
      rw [bvs_getElem?, List.getElem?_eq_getElem hil] at hu
      simp only [Option.map_some, Option.some.injEq] at hu
      subst hu
      simp [bv, hil]) dst hd
    rw [this]
    unfold str strOfNums
    congr 3
    rw [List.map_map]
    refine congrArg List.toArray (List.map_congr_left (g := id) (fun x _ => ?_) |>.trans (List.map_id _))
    simp

set_option maxRecDepth 100000 in
set_option maxHeartbeats 2000000 in
theorem pageWrites_ok (n : Nat) (A : Option Addr) (len cap : Nat) (l : List UInt8) (w : World) (hn : n ≤ 16383) (hlen : len ≤ 502) (hr : Rd w A len (bvs l)) :
    Calls Try.prog 3 #[.int .i64 (n : Int), .slice A len cap] w fun e w' => e = .returned (.bool true) ∧ Fr0 w w' := by
  have HR := Lib.hid hr
  have HL := Lib.hid (show l.length = len by rw [← bvs_length, hr.1])
  clear hr
  go_enter Try.func3, Try.ntmps3
  go_wp2_with (first
    | (at_builtin
       refine Does.list rfl (does_append (.tmp 11) (.tmp 12) 22 rfl w.heap.size 5 (.int .u8 0) 1 Try.underlying22 info_byte rfl _ 0 [] rfl (own_new0 w 5) A len cap (bvs l) rfl (HR.out.fr0 (Fr.refl.alloc _)) (bvs_one _) (by unfold maxLen; omega) (by omega) (by simp)) ?_
       rintro vi w1 ⟨ho, hg, _⟩
       have HF := Lib.hid (Fr.app (S := Nowhere) (Fr.refl.alloc _) (own_new0 w 5) (Nat.le_refl _) hg)
       rw [Nat.zero_add, List.nil_append] at ho
       have HI := Lib.hid ho
       clear ho hg)
    | fail)
  obtain ⟨Ai, ci, rfl, _, _, hrd, hati⟩ := own_form HI.out
  have HRI := Lib.hid hrd; have HTI := Lib.hid (fun h0 : 0 < len => hrd.lt h0)
  clear hrd hati
  refine (encode_ok n Ai len ci l w1 hn hlen HRI.out).mono ?_
  rintro e w2 ⟨vp, rfl, ho, hf⟩
  obtain ⟨gp, cp, restp, rfl, hgp, _, hbp, hlp⟩ := own_blk ho (by omega)
  have HBP := Lib.hid hbp; have HLP := Lib.hid hlp
  have hgp2 : gp < w2.heap.size := hbp.lt
  have hs1 : w.heap.size ≤ w1.heap.size := HF.out.size
  replace HRI := Lib.hid (HRI.out.fr0 hf)
  replace HF := Lib.hid (HF.out.then0 hf)
  clear ho hf hbp hlp HI
  go_wp2_with fail
  refine (refEncode_ok n A len cap l w2 hn hlen (HR.out.fr0 HF.out)).mono ?_
  rintro e w3 ⟨vq, rfl, ho, hf⟩
  obtain ⟨Aq, cq, rfl, _, _, hrd, hatq⟩ := own_form ho
  have HRQ := Lib.hid hrd; have HTQ := Lib.hid hatq
  have hs3 : w2.heap.size ≤ w3.heap.size := hf.size
  replace HRI := Lib.hid (HRI.out.fr0 hf)
  replace HF := Lib.hid (HF.out.then0 hf)
  replace HBP := Lib.hid (HBP.out.fr0 hf)
  clear ho hf hrd hatq
  have HPL := Lib.hid (show (bvs (pageOf n l)).length = 512 by rw [bvs_length, pageOf_length n l (by rw [HL.out]; exact hlen)])
  have hc1 := run_str (P := Try.prog) w3 22 9 5 Try.underlying22 Try.underlying5 Try.underlying9 (some ⟨gp, 0, none⟩) 512 cp (pageOf n l)
    (rd_blk HBP.out 0 512 _ (by rw [List.length_append, HPL.out]; omega) (by rw [List.drop_zero]; exact List.take_left' HPL.out))
  have hc2 := run_str (P := Try.prog) w3 22 9 5 Try.underlying22 Try.underlying5 Try.underlying9 Aq 512 cq (pageOf n l) HRQ.out
  unfold str at hc1 hc2
  go_wp2_with fail
  refine (sum_any Ai len ci l w3 (by omega) HRI.out).mono ?_
  rintro e w4 ⟨rfl, hf⟩
  have hs4 : w3.heap.size ≤ w4.heap.size := hf.size
  replace HRI := Lib.hid (HRI.out.fr0 hf)
  replace HRQ := Lib.hid (HRQ.out.fr0 hf)
  replace HF := Lib.hid (HF.out.then0 hf)
  replace HBP := Lib.hid (HBP.out.fr0 hf)
  clear hf hc1 hc2
  go_wp2_with fail
  refine (refSum_any A len cap l w4 (by omega) (HR.out.fr0 HF.out)).mono ?_
  rintro e _ ⟨rfl, rfl⟩
  have hc3 := run_str (P := Try.prog) w4 22 9 5 Try.underlying22 Try.underlying5 Try.underlying9 Ai len ci l HRI.out
  have hc4 := run_str (P := Try.prog) w4 22 9 5 Try.underlying22 Try.underlying5 Try.underlying9 A len cap l (HR.out.fr0 HF.out)
  unfold str at hc3 hc4
  go_wp2_with fail
  clear hc3 hc4
  go_loopw [10] (fun i wr => ∃ k : Nat, k ≤ 512 ∧ i = .int .i64 k ∧ (∃ cs, Blk wr gp 5 cs ∧ cs.length = cp) ∧ Fr (fun k => k = gp) w4 wr) (fun i _ => 512 - (intOf i).toNat)
  case atStart => exact ⟨0, by omega, rfl, ⟨_, HBP.out, HLP.out⟩, Fr.refl⟩
  case round =>
    obtain ⟨k, hk, rfl, ⟨cs, hb, hlc⟩, hf⟩ := hrel
    have HB := Lib.hid hb
    have HLC := Lib.hid hlc
    have HFR := Lib.hid hf
    have hcp : 512 ≤ cp := by have := HLP.out; rw [List.length_append, HPL.out] at this; omega
    clear hb hlc hf
    by_cases hlt : k < 512
    · obtain ⟨u, hcu⟩ : ∃ u, wr.cell? ⟨gp, k, none⟩ = some u := ⟨_, (HB.out.cell k).trans (List.getElem?_eq_getElem (by rw [HLC.out]; omega))⟩
      have hfu := HB.out.frozen k
      go_wp2
      go_roundw
      case rel => exact ⟨k + 1, by omega, by go_num, ⟨_, HB.out.set k _, by rw [List.length_set]; exact HLC.out⟩, HFR.out.setCell (fun _ => rfl) _⟩
      case measure => simp [intOf]; omega
    · obtain rfl : k = 512 := by omega
      have HRI' := Lib.hid (HRI.out.fr HFR.out (fun h0 b off e => by have := HTI.out h0 b off e; omega))
      have HRQ' := Lib.hid (HRQ.out.fr HFR.out (fun _ b off e => by have := (HTQ.out b off e).1; omega))
      have HF' := Lib.hid (HF.out.step HFR.out (fun k hk e => by omega))
      go_wp2_with fail
      refine (encode_ok n Ai len ci l wr hn hlen HRI'.out).mono ?_
      rintro e w6 ⟨vz, rfl, ho, hf⟩
      obtain ⟨Az, cz, rfl, _, _, hrd, _⟩ := own_form ho
      have hc1 := run_str (P := Try.prog) w6 22 9 5 Try.underlying22 Try.underlying5 Try.underlying9 Az 512 cz (pageOf n l) hrd
      have hc2 := run_str (P := Try.prog) w6 22 9 5 Try.underlying22 Try.underlying5 Try.underlying9 Aq 512 cq (pageOf n l) (HRQ'.out.fr0 hf)
      have hc3 := run_str (P := Try.prog) w6 22 9 5 Try.underlying22 Try.underlying5 Try.underlying9 Ai len ci l (HRI'.out.fr0 hf)
      have hc4 := run_str (P := Try.prog) w6 22 9 5 Try.underlying22 Try.underlying5 Try.underlying9 A len cap l ((HR.out.fr0 HF'.out).fr0 hf)
      unfold str at hc1 hc2 hc3 hc4
      replace HF' := Lib.hid (HF'.out.then0 hf)
      clear ho hf hrd
      go_wp2
      go_ret
      exact ⟨rfl, HF'.out⟩

set_option maxRecDepth 100000 in
set_option maxHeartbeats 2000000 in
theorem pageWrites_no (n : Int) (A : Option Addr) (len cap : Nat) (l : List UInt8) (w : World) (h : n < 0 ∨ 16383 < n ∨ 502 < len) (hm : len ≤ 140737488351232) (hr : Rd w A len (bvs l)) :
    Calls Try.prog 3 #[.int .i64 n, .slice A len cap] w fun e w' => e = .returned (.bool true) ∧ Fr0 w w' := by
  have HR := Lib.hid hr
  have HH := Lib.hid h
  clear hr h
  go_enter Try.func3, Try.ntmps3
  go_wp2_with (first
    | (at_builtin
       refine Does.list rfl (does_append (.tmp 11) (.tmp 12) 22 rfl w.heap.size 5 (.int .u8 0) 1 Try.underlying22 info_byte rfl _ 0 [] rfl (own_new0 w 5) A len cap (bvs l) rfl (HR.out.fr0 (Fr.refl.alloc _)) (bvs_one _) (by unfold maxLen; omega) (by omega) (by simp)) ?_
       rintro vi w1 ⟨ho, hg, _⟩
       have HF := Lib.hid (Fr.app (S := Nowhere) (Fr.refl.alloc _) (own_new0 w 5) (Nat.le_refl _) hg)
       rw [Nat.zero_add, List.nil_append] at ho
       have HI := Lib.hid ho
       clear ho hg)
    | fail)
  obtain ⟨Ai, ci, rfl, _, _, hrd, hati⟩ := own_form HI.out
  have HRI := Lib.hid hrd
  clear hrd hati HI
  refine (encode_no n Ai len ci w1 HH.out).mono ?_
  rintro e _ ⟨rfl, rfl⟩
  go_wp2_with fail
  refine (refEncode_no n A len cap w1 HH.out).mono ?_
  rintro e _ ⟨rfl, rfl⟩
  have hc0 := run_str (P := Try.prog) w1 22 9 5 Try.underlying22 Try.underlying5 Try.underlying9 none 0 0 [] Rd.nil
  unfold str at hc0
  go_wp2_with fail
  refine (sum_any Ai len ci l w1 hm HRI.out).mono ?_
  rintro e w4 ⟨rfl, hf⟩
  replace HRI := Lib.hid (HRI.out.fr0 hf)
  replace HF := Lib.hid (HF.out.then0 hf)
  clear hf hc0
  go_wp2_with fail
  refine (refSum_any A len cap l w4 hm (HR.out.fr0 HF.out)).mono ?_
  rintro e _ ⟨rfl, rfl⟩
  have hc0 := run_str (P := Try.prog) w4 22 9 5 Try.underlying22 Try.underlying5 Try.underlying9 none 0 0 [] Rd.nil
  have hc3 := run_str (P := Try.prog) w4 22 9 5 Try.underlying22 Try.underlying5 Try.underlying9 Ai len ci l HRI.out
  have hc4 := run_str (P := Try.prog) w4 22 9 5 Try.underlying22 Try.underlying5 Try.underlying9 A len cap l (HR.out.fr0 HF.out)
  unfold str at hc0 hc3 hc4
  go_wp2_with fail
  refine wp_loop_rounds 1 ?_
  rw [rounds_succ]
  go_wp2_with fail
  refine (encode_no n Ai len ci w4 HH.out).mono ?_
  rintro e _ ⟨rfl, rfl⟩
  go_wp2
  go_ret
  exact ⟨rfl, HF.out⟩
end Go.Proofs.Ytnkodmkoomifaaa
