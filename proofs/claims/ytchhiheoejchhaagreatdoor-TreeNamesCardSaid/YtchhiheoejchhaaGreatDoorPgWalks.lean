/- Contracts of page's summing, its closure, Sum and bytes8, and of the reference's Sum. -/
import Derived.Test.YtchhiheoejchhaaGreatDoorPlain
import Derived.Test.YtchhiheoejchhaaGreatDoorProg
import Derived.Test.YtchhiheoejchhaaGreatDoorBase2
namespace Go.Proofs.YtchhiheoejchhaaGreatDoor
open Go.RowKit

set_option maxHeartbeats 400000 in
/-- The closure that sums: it goes on in its own cell g. -/
theorem summer_any (s : Nat) (A : Option Addr) (len cap g : Nat) (l : List UInt8) (w : World) (hm : len ≤ 140737488351232) (hs : s < M64) (hr : Rd w A len (bvs l))
    (hg : Blk w g 144 [.int .u64 (s : Int)]) (hne : 0 < len → ∀ b off, A = some ⟨b, off, none⟩ → b ≠ g) :
    Calls Tryz.prog 116 #[.slice A len cap, .pointer (some ⟨g, 0, none⟩)] w fun e w' =>
      e = .returned (.int .u64 (fnv s l : Nat)) ∧ Blk w' g 144 [.int .u64 (fnv s l : Nat)] ∧ Fr (fun k => k = g) w w' := by
  have HL := Lib.hid (show l.length = len by rw [← bvs_length, hr.1])
  have HS := Lib.hid hs
  clear hs
  go_enter Tryz.func116, Tryz.ntmps116
  go_wp2
  go_loopw [8] (fun i wr => ∃ k : Nat, k ≤ len ∧ i = .int .i64 k ∧ Blk wr g 144 [.int .u64 ((fnv s (l.take k) : Nat) : Int)] ∧ Fr (fun k => k = g) w wr) (fun i _ => len - (intOf i).toNat)
  case atStart => exact ⟨0, Nat.zero_le _, rfl, hg, Fr.refl⟩
  case round =>
    obtain ⟨k, hk, rfl, hgr, hfr⟩ := hrel
    have hcg := hgr.cell 0
    have hfg := hgr.frozen 0
    have HG := Lib.hid hgr
    have HF := Lib.hid hfr
    by_cases hlt : k < len
    · obtain ⟨b, off, rfl, u, hu, hcell⟩ := (hr.fr hfr (fun h0 b off e => hne h0 b off e)).at_ hlt
      have hbg : b ≠ g := hne (by omega) b off rfl
      have hkl : k < l.length := by rw [HL.out]; exact hlt
      rw [bvs_getElem?, List.getElem?_eq_getElem hkl] at hu
      obtain rfl : bv l[k] = u := by simpa using hu
      clear hu hgr hfr hr hg
      unfold bv at hcell
      have HN := Lib.hid ((fnv_snoc s l k hkl).symm.trans rfl)
      have HW := Lib.hid (walkStep_eq _ l[k] (fnv_lt s HS.out (l.take k)))
      generalize fnv s (l.take k) = x at *
      generalize l[k] = c at *
      clear hkl
      simp only [List.getElem?_cons_zero] at hcg
      go_wp2
      go_roundw
      case rel =>
        refine ⟨k + 1, by omega, by go_num, ?_, HF.out.setCell (fun _ => rfl) _⟩
        have := HG.out.set 0 (.int .u64 (walkStep x c))
        rw [← HN.out, ← HW.out]
        exact this
      case measure => simp [intOf]; omega
    · have HK := Lib.hid (show k = len by omega)
      clear hgr hfr
      simp only [List.getElem?_cons_zero] at hcg
      go_wp2
      go_ret
      have hG := HG.out
      rw [List.take_of_length_le (by rw [HL.out]; omega)] at hG ⊢
      exact ⟨rfl, hG, HF.out⟩

/-- A sum that goes on: a new cell that holds the sum's beginning. -/
theorem summing_any (w : World) :
    Calls Tryz.prog 107 #[] w fun e w' => ∃ g, e = .returned (.func (.func 116) #[] #[.pointer (some ⟨g, 0, none⟩)]) ∧
      w.heap.size ≤ g ∧ g < w'.heap.size ∧ Blk w' g 144 [.int .u64 (fnv0 : Int)] ∧ Fr0 w w' := by
  have hmf : ∀ (fn : Fn) (first cap : Array Value) (w : World), (Instr.makeFunc fn first cap).run Tryz.prog w = .ok (.func fn first cap) w := fun _ _ _ _ => rfl
  go_enter Tryz.func107, Tryz.ntmps107
  go_wp2
  go_ret
  exact ⟨_, rfl, Nat.le_refl _, by simp, Blk.new w _ [_], Fr.refl.alloc _⟩

set_option maxHeartbeats 400000 in
theorem bytes8_any (n : Nat) (w : World) (hn : n < M64) :
    Calls Tryz.prog 108 #[.int .u64 (n : Int)] w fun e w' => e = .returned (.agg (bvs (be8 n)).toArray) ∧ Fr0 w w' := by
  have HN := Lib.hid hn
  clear hn
  go_enter Tryz.func108, Tryz.ntmps108
  go_wp2
  go_loopw [3, 4] (fun _ i wr => ∃ k : Nat, k ≤ 8 ∧ i = .int .i64 k ∧ Blk wr w.heap.size 167 (bvs ((be8 n).take k) ++ List.replicate (8 - k) (.int .u8 0)) ∧ Fr0 w wr) (fun _ i _ => 8 - (intOf i).toNat)
  case atStart => exact ⟨0, by omega, rfl, Blk.new w _ [_, _, _, _, _, _, _, _], Fr.refl.alloc _⟩
  case round =>
    obtain ⟨k, hk, rfl, hgr, hfr⟩ := hrel
    have HG := Lib.hid hgr
    have HF := Lib.hid hfr
    by_cases hlt : k < 8
    · have hcg : ∃ u, wr.cell? ⟨w.heap.size, k, none⟩ = some u := by
        rw [hgr.cell k]
        exact ⟨_, List.getElem?_eq_getElem (by simp [bvs_length, be8_length]; omega)⟩
      obtain ⟨u, hcg⟩ := hcg
      have hfg := hgr.frozen k
      clear hgr hfr
      go_wp2
      go_roundw
      case rel =>
        refine ⟨k + 1, by omega, by go_num, ?_, HF.out.setCell (fun h => absurd h (Nat.lt_irrefl _)) _⟩
        have := HG.out.set k (.int .u8 (↑n / 2 ^ (56 - 8 * k) % 256))
        rwa [be8_set n k hlt] at this
      case measure => simp [intOf]; omega
    · obtain rfl : k = 8 := by omega
      clear hgr hfr
      have HG8 : Hid (Blk wr w.heap.size 167 (bvs (be8 n))) := by
        have := HG.out
        rw [List.take_of_length_le (by rw [be8_length]; omega)] at this
        exact Lib.hid (by simpa using this)
      clear HG
      have hl8 : (bvs (be8 n)).length = 8 := by rw [bvs_length, be8_length]
      have HL := Lib.hid hl8
      clear hl8
      go_wp2_with (first
        | (refine Does.list rfl (does_load 167 (.tmp 2) rfl w.heap.size 0 8 167 (bvs (be8 n)) (.array 8 5) rfl HG8.out Tryz.underlying167 rfl (by kernel_rfl) (by rw [HL.out]; omega)) ?_
           rintro _ _ ⟨rfl, rfl⟩
           rw [show List.take 8 (List.drop 0 (bvs (be8 n))) = bvs (be8 n) from by rw [List.drop_zero, List.take_of_length_le (by rw [HL.out]; omega)]])
        | (refine Does.list rfl (does_store 167 (.tmp 2) (.tmp 16) rfl w.heap.size 0 167 (bvs (be8 n)) (bvs (be8 n)) rfl rfl HG8.out (by rw [HL.out]; kernel_rfl) (by omega) (bvs_one _)) ?_
           rintro _ w2 ⟨rfl, hb2, hf2⟩
           rw [put_all _ _ rfl] at hb2
           have HB2 := Lib.hid hb2
           have HF2 := Lib.hid hf2
           clear hb2 hf2))
      refine bodyPost_ret (v := .agg (bvs (be8 n)).toArray) ?_ rfl ⟨rfl, HF.out.step HF2.out (fun k hk e => by omega)⟩
      exact results_cell_row (P := Tryz.prog) rfl _ _ w.heap.size 167 _ (0, 0) (.array 8 5) rfl HB2.out Tryz.underlying167 rfl (by rw [List.size_toArray, HL.out]; kernel_rfl)
end Go.Proofs.YtchhiheoejchhaaGreatDoor
