/- Contract of page's sealed. -/
import Derived.Test.YtchhiheoejchhaaGreatDoorPgWalks
import Derived.WalkSpells
namespace Go.Proofs.YtchhiheoejchhaaGreatDoor
open Go.RowKit

def zeros (n : Nat) : List Value := List.replicate n (.int .u8 0)
theorem zeros_length (n : Nat) : (zeros n).length = n := by simp [zeros]
theorem info_sheet : (Tryz.prog.info? 158).map (·.zero) = some (some (.agg (zeros 512).toArray)) := by kernel_rfl
theorem size_sheet : (Tryz.prog.info? 158).map (·.size) = some 512 := by kernel_rfl
theorem info_eight : (Tryz.prog.info? 167).map (·.zero) = some (some (.agg (zeros 8).toArray)) := by kernel_rfl
theorem size_eight : (Tryz.prog.info? 167).map (·.size) = some 8 := by kernel_rfl
theorem size_byte : (Tryz.prog.info? 5).map (·.size) = some 1 := by kernel_rfl
theorem info_byte : (Tryz.prog.info? 5).map (fun i => (i.zero, i.size, i.bytes)) = some (some (.int .u8 0), 1, 1) := by kernel_rfl

theorem rd_blk {w : World} {g : Nat} {t : TypeId} {cs : List Value} (h : Blk w g t cs) (off n : Nat) (xs : List Value) (hl : off + n ≤ cs.length) (hx : (cs.drop off).take n = xs) :
    Rd w (some ⟨g, off, none⟩) n xs := hx ▸ Rd.of_blk h off hl

set_option maxHeartbeats 1000000 in
theorem sealed_any (n : Nat) (s : List UInt8) (w : World) (hn : n ≤ 16383) (hs : s.length = 512) :
    Calls Tryz.prog 101 #[.int .i64 (n : Int), .agg (bvs s).toArray] w fun e w' =>
      e = .returned (.agg (bvs (be8 (pageSum n (s.drop 8)) ++ s.drop 8)).toArray) ∧ Fr0 w w' := by
  have HS := Lib.hid (show (bvs s).length = 512 by rw [bvs_length, hs])
  have HS' := Lib.hid hs
  clear hs
  go_enter Tryz.func101, Tryz.ntmps101
  go_wp2_with (first
    | (refine Does.list rfl (does_box 158 (.tmp 1) rfl (bvs s) rfl) ?_
       rintro _ w1 ⟨g3, rfl, h3, h3', hb1, hf1⟩
       have HB1 := Lib.hid hb1; have HF1 := Lib.hid hf1; clear hb1 hf1)
    | (refine Does.list rfl (does_alloc 158 rfl _ (zeros 512) info_sheet rfl) ?_
       rintro _ w2 ⟨g4, rfl, h4, h4', hb2, hf2⟩
       have HB2 := Lib.hid hb2; have HF2 := Lib.hid hf2; clear hb2 hf2)
    | fail)
  refine (summing_any _).mono ?_
  rintro e w3 ⟨g5, rfl, h5, h5', hb3, hf3⟩
  have HB3 := Lib.hid hb3; have HF3 := Lib.hid hf3; clear hb3 hf3
  have HT := Lib.hid (((HF1.out.then0 HF2.out).then0 HF3.out))
  have hw3 : w.heap.size ≤ w3.heap.size := HT.out.size
  replace HB1 := Lib.hid ((HB1.out.fr0 HF2.out).fr0 HF3.out)
  replace HB2 := Lib.hid (HB2.out.fr0 HF3.out)
  clear HF1 HF2 HF3
  go_wp2_with fail
  refine (bytes8_any n _ (by unfold M64; omega)).mono ?_
  rintro e w4 ⟨rfl, hf4⟩
  have hw4 : w3.heap.size ≤ w4.heap.size := hf4.size
  replace HB1 := Lib.hid (HB1.out.fr0 hf4); replace HB2 := Lib.hid (HB2.out.fr0 hf4); replace HB3 := Lib.hid (HB3.out.fr0 hf4); replace HT := Lib.hid (HT.out.then0 hf4)
  clear hf4
  go_wp2_with (first
    | (refine Does.list rfl (does_alloc 167 rfl _ (zeros 8) info_eight rfl) ?_
       rintro _ w5 ⟨g6, rfl, h6, h6', hb, hf⟩
       have hw5 : w4.heap.size ≤ w5.heap.size := hf.size
       have HB6 := Lib.hid hb
       replace HB1 := Lib.hid (HB1.out.fr0 hf); replace HB2 := Lib.hid (HB2.out.fr0 hf); replace HB3 := Lib.hid (HB3.out.fr0 hf); replace HT := Lib.hid (HT.out.then0 hf)
       clear hb hf)
    | (refine Does.list rfl (does_store 167 (.tmp 6) (.tmp 11) rfl g6 0 167 (zeros 8) (bvs (be8 n)) rfl rfl HB6.out (by rw [bvs_length, be8_length]; exact size_eight) (by rw [bvs_length, be8_length, zeros_length]; omega) (bvs_one _)) ?_
       rintro _ w6 ⟨rfl, hb, hf⟩
       rw [put_all _ _ (by rw [bvs_length, be8_length, zeros_length])] at hb
       have hw6 : w5.heap.size ≤ w6.heap.size := hf.size
       replace HB6 := Lib.hid hb
       replace HB1 := Lib.hid (HB1.out.fr hf (by omega)); replace HB2 := Lib.hid (HB2.out.fr hf (by omega)); replace HB3 := Lib.hid (HB3.out.fr hf (by omega)); replace HT := Lib.hid (HT.out.step hf (fun k hk e => by omega))
       clear hb hf)
    | fail)
  refine (summer_any fnv0 (some ⟨g6, 0, none⟩) 8 8 g5 (be8 n) w6 (by omega) fnv0_lt (rd_blk HB6.out 0 8 _ (by rw [bvs_length, be8_length]; omega) (by rw [List.drop_zero, List.take_of_length_le (by rw [bvs_length, be8_length]; omega)])) HB3.out
    (fun _ b off e => by injection e with e; injection e with e1 _ _; omega)).mono ?_
  rintro e w7 ⟨rfl, hb, hf⟩
  have hw7 : w6.heap.size ≤ w7.heap.size := hf.size
  replace HB3 := Lib.hid hb
  replace HB1 := Lib.hid (HB1.out.fr hf (by omega)); replace HB2 := Lib.hid (HB2.out.fr hf (by omega)); replace HT := Lib.hid (HT.out.step hf (fun k hk e => by omega))
  clear hb hf HB6
  go_wp2_with fail
  refine (summer_any (fnv fnv0 (be8 n)) (some ⟨g3, 8, none⟩) 504 504 g5 (s.drop 8) w7 (by omega) (fnv_lt _ fnv0_lt _) (rd_blk HB1.out 8 504 _ (by rw [HS.out]; omega) (by rw [List.take_of_length_le (by rw [List.length_drop, HS.out]; omega)]; simp [bvs])) HB3.out
    (fun _ b off e => by injection e with e; injection e with e1 _ _; omega)).mono ?_
  rintro e w8 ⟨rfl, _, hf⟩
  have hw8 : w7.heap.size ≤ w8.heap.size := hf.size
  replace HB1 := Lib.hid (HB1.out.fr hf (by omega)); replace HB2 := Lib.hid (HB2.out.fr hf (by omega)); replace HT := Lib.hid (HT.out.step hf (fun k hk e => by omega))
  clear hf HB3
  have HP := Lib.hid (pageSum_lt n (s.drop 8))
  rw [show fnv (fnv fnv0 (be8 n)) (s.drop 8) = pageSum n (s.drop 8) from rfl]
  generalize hsum : pageSum n (s.drop 8) = sum at *
  have HSUM := Lib.hid hsum; clear hsum
  go_wp2_with fail
  refine (bytes8_any sum _ HP.out).mono ?_
  rintro e w9 ⟨rfl, hf⟩
  have hw9 : w8.heap.size ≤ w9.heap.size := hf.size
  replace HB1 := Lib.hid (HB1.out.fr0 hf); replace HB2 := Lib.hid (HB2.out.fr0 hf); replace HT := Lib.hid (HT.out.then0 hf)
  clear hf
  go_wp2_with (first
    | (refine Does.list rfl (does_alloc 167 rfl _ (zeros 8) info_eight rfl) ?_
       rintro _ w10 ⟨g7, rfl, h7, h7', hb, hf⟩
       have hw10 : w9.heap.size ≤ w10.heap.size := hf.size
       have HB7 := Lib.hid hb
       replace HB1 := Lib.hid (HB1.out.fr0 hf); replace HB2 := Lib.hid (HB2.out.fr0 hf); replace HT := Lib.hid (HT.out.then0 hf)
       clear hb hf)
    | (refine Does.list rfl (does_store 167 (.tmp 7) (.tmp 18) rfl g7 0 167 (zeros 8) (bvs (be8 sum)) rfl rfl HB7.out (by rw [bvs_length, be8_length]; exact size_eight) (by rw [bvs_length, be8_length, zeros_length]; omega) (bvs_one _)) ?_
       rintro _ w11 ⟨rfl, hb, hf⟩
       rw [put_all _ _ (by rw [bvs_length, be8_length, zeros_length])] at hb
       have hw11 : w10.heap.size ≤ w11.heap.size := hf.size
       replace HB7 := Lib.hid hb
       replace HB1 := Lib.hid (HB1.out.fr hf (by omega)); replace HB2 := Lib.hid (HB2.out.fr hf (by omega)); replace HT := Lib.hid (HT.out.step hf (fun k hk e => by omega))
       clear hb hf)
    | fail)
  go_region_law (refine Does.step rfl (does_copy (.tmp 19) (.tmp 20) 28 28 rfl 5 Tryz.underlying28 size_byte g3 0 8 512 (some ⟨g7, 0, none⟩) 8 8 rfl rfl 158 (bvs s) (bvs (be8 sum)) HB1.out.drew
      (rd_blk HB7.out.drew 0 8 _ (by rw [bvs_length, be8_length]; omega) (by rw [List.drop_zero, List.take_of_length_le (by rw [bvs_length, be8_length]; omega)])) (by omega) (by rw [HS.out]; omega) (bvs_one _)) ?_
                 rintro _ w12 ⟨rfl, hb, hf⟩
                 have hw12 : w11.heap.size ≤ w12.heap.size := hf.size
                 replace HB1 := Lib.hid hb
                 replace HB2 := Lib.hid (HB2.out.drew.fr hf (by omega)); replace HT := Lib.hid (HT.out.drew.step hf (fun k hk e => by omega))
                 clear hb hf HB7)
  have HX := Lib.hid (show put (bvs s) 0 (bvs (be8 sum)) = bvs (be8 sum ++ s.drop 8) by
    simp only [put, List.take_zero, List.nil_append, Nat.zero_add, bvs_length, be8_length]
    simp [bvs])
  rw [HX.out] at HB1
  have HL := Lib.hid (show (bvs (be8 sum ++ s.drop 8)).length = 512 by rw [bvs_length, List.length_append, be8_length, List.length_drop, HS'.out])
  generalize hout : be8 sum ++ s.drop 8 = out at *
  have HOUT := Lib.hid hout; clear hout
  clear HX
  go_wp2_with (first
    | (refine Does.list rfl (does_load 158 (.tmp 3) rfl g3 0 512 158 (bvs out) (.array 512 5) rfl HB1.out Tryz.underlying158 rfl size_sheet (by rw [HL.out]; omega)) ?_
       rintro _ _ ⟨rfl, rfl⟩
       rw [show List.take 512 (List.drop 0 (bvs out)) = bvs out from by rw [List.drop_zero, List.take_of_length_le (by rw [HL.out]; omega)]])
    | (refine Does.list rfl (does_store 158 (.tmp 4) (.tmp 22) rfl g4 0 158 (zeros 512) (bvs out) rfl rfl HB2.out (by rw [HL.out]; exact size_sheet) (by rw [HL.out, zeros_length]; omega) (bvs_one _)) ?_
       rintro _ w13 ⟨rfl, hb, hf⟩
       rw [put_all _ _ (by rw [HL.out, zeros_length])] at hb
       have HB13 := Lib.hid hb
       replace HT := Lib.hid (HT.out.step hf (fun k hk e => by omega))
       clear hb hf)
    | fail)
  refine bodyPost_ret (v := .agg (bvs out).toArray) ?_ rfl ⟨by rw [HSUM.out, HOUT.out], HT.out⟩
  exact results_cell_row (P := Tryz.prog) rfl _ _ g4 158 _ (0, 0) (.array 512 5) rfl HB13.out Tryz.underlying158 rfl (by rw [List.size_toArray, HL.out]; exact size_sheet)
end Go.Proofs.YtchhiheoejchhaaGreatDoor
