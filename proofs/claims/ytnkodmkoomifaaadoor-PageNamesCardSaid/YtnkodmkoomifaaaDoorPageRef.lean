/- Contracts of the reference's On and Sum. -/
import Derived.Test.YtnkodmkoomifaaaDoorPlain
import Derived.Test.YtnkodmkoomifaaaDoorProg
namespace Go.Proofs.YtnkodmkoomifaaaDoor
open Go.RowKit

set_option maxHeartbeats 400000 in
theorem refOn_any (s : Nat) (A : Option Addr) (len cap : Nat) (l : List UInt8) (w : World) (hm : len ≤ 140737488351232) (hs : s < M64) (hr : Rd w A len (bvs l)) :
    Calls Tryd.prog 34 #[.int .u64 (s : Int), .slice A len cap] w fun e w' => e = .returned (.int .u64 (fnv s l : Nat)) ∧ w = w' := by
  have hl : l.length = len := by rw [← bvs_length, hr.1]
  have HL := Lib.hid hl
  clear hl
  have HS := Lib.hid hs
  clear hs
  go_enter Tryd.func34, Tryd.ntmps34
  go_wp2
  go_loop [0, 5] (fun t i => ∃ k : Nat, k ≤ len ∧ i = .int .i64 k ∧ t = .int .u64 ((fnv s (l.take k) : Nat) : Int)) (fun _ i => len - (intOf i).toNat)
  case atStart => exact ⟨0, Nat.zero_le _, rfl, rfl⟩
  case round =>
    obtain ⟨k, hk, rfl, rfl⟩ := hrel
    by_cases hlt : k < len
    · obtain ⟨b, off, rfl, u, hu, hcell⟩ := hr.at_ hlt
      have hkl : k < l.length := by rw [HL.out]; exact hlt
      rw [bvs_getElem?, List.getElem?_eq_getElem hkl] at hu
      obtain rfl : bv l[k] = u := by simpa using hu
      clear hu
      unfold bv at hcell
      have HN := Lib.hid ((fnv_snoc s l k hkl).symm.trans rfl)
      have HW := Lib.hid (walkStep_eq _ l[k] (fnv_lt s HS.out (l.take k)))
      generalize fnv s (l.take k) = x at *
      generalize l[k] = c at *
      clear hkl
      go_wp2
      go_round
      case rel =>
        refine ⟨k + 1, by omega, by go_num, ?_⟩
        rw [← HN.out, ← HW.out]; rfl
      case measure => simp [intOf]; omega
    · have hkk : k = len := by omega
      have HK := Lib.hid hkk
      clear hkk
      go_wp2
      go_ret
      refine ⟨?_, rfl⟩
      rw [List.take_of_length_le (by rw [HL.out]; omega)]
      rfl
end Go.Proofs.YtnkodmkoomifaaaDoor
