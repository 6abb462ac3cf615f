/- The law PageNames, walked. -/
import Derived.Test.YtnkodmkoomifaaaDoorPageWorks
import Derived.Test.YtnkodmkoomifaaaDoorBase4
import Derived.Test.YtnkodmkoomifaaaDoorSeq
namespace Go.Proofs.YtnkodmkoomifaaaDoor
open Go.RowKit

/-- The bytes behind a page's sum: the length c, d, and zeros. -/
def zerosB (n : Nat) : List UInt8 := List.replicate n 0
theorem zerosB_length (n : Nat) : (zerosB n).length = n := List.length_replicate
theorem zerosB_bvs (n : Nat) : bvs (zerosB n) = List.replicate n (.int .u8 0) := by
  unfold bvs zerosB; rw [List.map_replicate]; rfl
def blankTail (c d : UInt8) : List UInt8 := c :: d :: zerosB 502
theorem blankTail_length (c d : UInt8) : (blankTail c d).length = 504 := by
  unfold blankTail; rw [List.length_cons, List.length_cons, zerosB_length]
theorem page0_tail : tailOf [] = zerosB 504 := rfl
theorem page0_at (j : Nat) (h1 : 8 ≤ j) (h2 : j < 512) : (pageOf 0 [])[j]? = some 0 := by
  unfold pageOf
  rw [List.getElem?_append_right (by rw [be8_length]; omega), be8_length, page0_tail]
  unfold zerosB
  rw [List.getElem?_replicate, if_pos (by omega)]
def z8 : List UInt8 := List.replicate 8 0
theorem z8_be8 : be8 0 = z8 := by decide

theorem long_start (c d : UInt8) : ((List.replicate 512 (Value.int .u8 0)).set 8 (bv c)).set 9 (bv d) = bvs (z8 ++ blankTail c d) := by
  have e : List.replicate 512 (Value.int .u8 0) = zeros 512 := rfl
  rw [e, zeros_split 8 502 0 (by omega)]
  simp only [List.set_append_right _ _ (show (zeros 8).length ≤ 8 by rw [zeros_length]; omega), List.set_append_right _ _ (show (zeros 8).length ≤ 9 by rw [zeros_length]; omega), zeros_length, Nat.reduceSub, List.set_cons_zero, List.set_cons_succ]
  rw [bvs_append]
  unfold blankTail
  have h8 : bvs z8 = zeros 8 := zerosB_bvs 8
  rw [h8, show bvs (c :: d :: zerosB 502) = bv c :: bv d :: bvs (zerosB 502) from rfl, zerosB_bvs, show zeros 0 = [] from rfl, List.append_nil]
  rfl

theorem rd_zeros {w : World} {g : Nat} {t : TypeId} {n : Nat} (h : Blk w g t (List.replicate n (.int .u8 0))) : Rd w (some ⟨g, 0, none⟩) n (bvs (zerosB n)) :=
  rd_blk h 0 n _ (by rw [List.length_replicate]; omega) (by rw [zerosB_bvs, List.drop_zero, List.take_of_length_le (by rw [List.length_replicate]; omega)])
/-- The head of a page, k of its bytes written from the end. -/
def fillHd (hd : List UInt8) (s k : Nat) : List UInt8 := hd.take (8 - k) ++ (be8 s).drop (8 - k)
theorem fillHd_length (hd : List UInt8) (s k : Nat) (h : hd.length = 8) (hk : k ≤ 8) : (fillHd hd s k).length = 8 := by
  simp only [fillHd, List.length_append, List.length_take, List.length_drop, be8_length, h]; omega
theorem fillHd_zero (hd : List UInt8) (s : Nat) (h : hd.length = 8) : fillHd hd s 0 = hd := by
  unfold fillHd
  rw [List.take_of_length_le (by omega), List.drop_of_length_le (by rw [be8_length]; omega), List.append_nil]
theorem fillHd_all (hd : List UInt8) (s : Nat) : fillHd hd s 8 = be8 s := by simp [fillHd]
theorem fillHd_step (hd t : List UInt8) (s k : Nat) (h : hd.length = 8) (hk : k < 8) :
    (bvs (fillHd hd s k ++ t)).set (7 - k) (.int .u8 ((s : Int) / 2 ^ (8 * k) % 256)) = bvs (fillHd hd s (k + 1) ++ t) := by
  have hb : Value.int IntKind.u8 ((s : Int) / 2 ^ (8 * k) % 256) = bv (UInt8.ofNat (s >>> (8 * k))) := by
    unfold bv
    rw [toNat_ofNat8, Nat.shiftRight_eq_div_pow]
    simp
  rw [hb]
  have e1 : (bvs (fillHd hd s k ++ t)).set (7 - k) (bv (UInt8.ofNat (s >>> (8 * k)))) = bvs ((fillHd hd s k ++ t).set (7 - k) (UInt8.ofNat (s >>> (8 * k)))) := by
    unfold bvs; rw [List.map_set]
  rw [e1, List.set_append_left _ _ (by rw [fillHd_length hd s k h (by omega)]; omega)]
  congr 2
  unfold fillHd
  have h7 : 7 - k < 8 - k := by omega
  rw [List.set_append_left _ _ (by rw [List.length_take, h]; omega), show 8 - (k + 1) = 7 - k from by omega]
  have hl : 7 - k < hd.length := by omega
  have hbl : 7 - k < (be8 s).length := by rw [be8_length]; omega
  rw [show 8 - k = (7 - k) + 1 from by omega, List.take_succ_eq_append_getElem hl, List.set_append_right _ _ (by rw [List.length_take]; omega), List.length_take, Nat.min_eq_left (by omega), Nat.sub_self, List.set_cons_zero,
    List.drop_eq_getElem_cons hbl]
  have : (be8 s)[7 - k] = UInt8.ofNat (s >>> (8 * k)) := by
    have h2 := be8_at s (7 - k) (by omega)
    rw [List.getElem?_eq_getElem hbl, show 56 - 8 * (7 - k) = 8 * k from by omega] at h2
    simpa using h2
  rw [this, List.append_assoc]; rfl
theorem long_no : ¬ DecOk 0 (be8 (fnv fnv0 (z8 ++ blankTail 1 247)) ++ blankTail 1 247) := by
  intro h
  have h1 := h.1
  have e : longOf (be8 (fnv fnv0 (z8 ++ blankTail 1 247)) ++ blankTail 1 247) = 503 := by
    unfold longOf
    rw [List.getD_eq_getElem?_getD, List.getD_eq_getElem?_getD, List.getElem?_append_right (by rw [be8_length]; omega), List.getElem?_append_right (by rw [be8_length]; omega), be8_length]
    rfl
  omega
theorem long_yes : be8 (fnv fnv0 (z8 ++ blankTail 1 246)) ++ blankTail 1 246 = pageOf 0 (zerosB 502) := by
  have e : tailOf (zerosB 502) = blankTail 1 246 := by
    unfold tailOf blankTail
    rw [zerosB_length, show (502 - 502 : Nat) = 0 from rfl, List.replicate_zero, List.append_nil]; rfl
  unfold pageOf pageSum
  rw [e, z8_be8, fnv_append]

theorem hd_set9 (hd : List UInt8) (h : hd.length = 8) (c d d' : UInt8) : (bvs (hd ++ blankTail c d)).set 9 (bv d') = bvs (hd ++ blankTail c d') := by
  have e1 : (bvs (hd ++ blankTail c d)).set 9 (bv d') = bvs ((hd ++ blankTail c d).set 9 d') := by unfold bvs; rw [List.map_set]
  rw [e1, List.set_append_right _ _ (by omega), h]
  rfl
theorem hd_drop (hd : List UInt8) (h : hd.length = 8) (c d : UInt8) : ((bvs (hd ++ blankTail c d)).drop 8).take 504 = bvs (blankTail c d) := by
  rw [bvs_append]
  exact (List.take_of_length_le (by rw [List.length_drop, List.length_append, bvs_length, bvs_length, blankTail_length, h]; decide)).trans (List.drop_left' (by rw [bvs_length, h]))
theorem hd_len (hd : List UInt8) (h : hd.length = 8) (c d : UInt8) : (bvs (hd ++ blankTail c d)).length = 512 := by
  rw [bvs_length, List.length_append, blankTail_length, h]

set_option maxRecDepth 100000 in
set_option maxHeartbeats 8000000 in
theorem pageNames_any (w : World) : Calls Tryd.prog 4 #[] w fun e w' => e = .returned (.bool true) ∧ Fr0 w w' := by
  go_enter Tryd.func4, Tryd.ntmps4
  go_wp2_with fail
  refine (works_any _).mono ?_
  rintro e w1 ⟨rfl, hf⟩
  have HF := Lib.hid hf
  clear hf
  go_wp2_with fail
  refine (sum_any none 0 0 [] w1 (by omega) Rd.nil).mono ?_
  rintro e w2 ⟨rfl, hf⟩
  replace HF := Lib.hid (HF.out.then0 hf)
  clear hf
  rw [show fnv fnv0 [] = 14695981039346656037 from rfl]
  go_wp2_with fail
  refine (encode_ok 0 none 0 0 [] w2 (by omega) (by omega) Rd.nil).mono ?_
  rintro e w3 ⟨vp, rfl, ho, hf⟩
  replace HF := Lib.hid (HF.out.then0 hf)
  obtain ⟨gp, cp, restp, rfl, hgp, hcp, hbp, _⟩ := own_blk ho (by omega)
  have HBP := Lib.hid hbp
  have hgp3 := hbp.lt
  clear ho hf hbp
  go_wp2_with fail
  have HPL := Lib.hid (pageOf_length 0 [] (by simp))
  have HPC := Lib.hid (fun (j : Nat) (h1 : 8 ≤ j) (h2 : j < 512) => show w3.cell? ⟨gp, j, none⟩ = some (.int .u8 0) by
    rw [HBP.out.cell, List.getElem?_append_left (by rw [bvs_length, HPL.out]; exact h2), bvs_getElem?, page0_at j h1 h2]; rfl)
  go_loop [3] (fun i => ∃ k : Nat, 8 ≤ k ∧ k ≤ 512 ∧ i = .int .i64 k) (fun i => 512 - (intOf i).toNat)
  case atStart => exact ⟨8, by omega, by omega, rfl⟩
  case round =>
    obtain ⟨k, hk1, hk2, rfl⟩ := hrel
    by_cases hlt : k < 512
    · have hc := HPC.out k hk1 hlt
      go_wp2
      go_round
      case rel => exact ⟨k + 1, by omega, by omega, by go_num⟩
      case measure => simp [intOf]; omega
    · obtain rfl : k = 512 := by omega
      go_wp2_with (first
        | (refine Does.list rfl (does_make1 22 _ _ rfl 5 (.int .u8 0) 1 512 Tryd.underlying22 info_byte rfl rfl rfl (by omega) (by omega)) ?_
           rintro _ w4 ⟨gl, rfl, hgl, hgl', hb, hf⟩
           have HBL := Lib.hid hb
           have HF4 := Lib.hid (HF.out.then0 hf)
           replace HBP := Lib.hid (HBP.out.fr0 hf)
           clear hb hf)
        | (refine Does.list rfl (does_store1 5 (.tmp 65) _ rfl gl 8 5 _ (.int .u8 1) rfl rfl rfl HBL.out size_byte (by rw [List.length_replicate]; omega) rfl) ?_
           rintro _ w5 ⟨rfl, hb, hf⟩
           have HBL5 := Lib.hid hb
           have HF5 := Lib.hid (HF4.out.step hf (fun j hj e => by have := HF.out.size; omega))
           replace HBP := Lib.hid (HBP.out.fr hf (by omega))
           clear hb hf)
        | (refine Does.list rfl (does_store1 5 (.tmp 67) _ rfl gl 9 5 _ (.int .u8 247) rfl rfl rfl HBL5.out size_byte (by rw [List.length_set, List.length_replicate]; omega) rfl) ?_
           rintro _ w6 ⟨rfl, hb, hf⟩
           have HBL6 := Lib.hid hb
           have HF6 := Lib.hid (HF5.out.step hf (fun j hj e => by have := HF.out.size; omega))
           replace HBP := Lib.hid (HBP.out.fr hf (by omega))
           clear hb hf)
        | fail)
      have HLL : Hid (Blk w6 gl 5 (bvs (z8 ++ blankTail 1 247))) := Lib.hid (by
        have h : Blk w6 gl 5 (((List.replicate 512 (Value.int .u8 0)).set 8 (bv 1)).set 9 (bv 247)) := HBL6.out
        rwa [long_start 1 247] at h)
      clear HBL HBL5 HBL6
      refine wp_region_seq [1, 2, 0, 3, 4, 5] (fun _ => True) (by kernel_rfl) (by kernel_rfl) rfl (fun c a t v w h => by cases t <;> exact h) ?_
      refine seq_take (some 69) (.slice (some ⟨gl, 0, none⟩) 512 512) (by kernel_rfl) (by kernel_rfl) rfl rfl rfl (fun _ _ => rfl) trivial ?_
      refine seq_take (some 70) (.slice (some ⟨gl, 8, none⟩) 504 504) (by kernel_rfl) (by kernel_rfl) rfl rfl rfl (fun W _ => exec_sliceFrom 22 5 (.tmp 69) _ rfl (some ⟨gl, 0, none⟩) 512 512 8 8 rfl rfl rfl Tryd.underlying22 size_byte (by omega)) trivial ?_
      refine seq_does (some 68) (by kernel_rfl) rfl rfl rfl (does_make1 22 _ _ rfl 5 (.int .u8 0) 1 8 Tryd.underlying22 info_byte rfl rfl rfl (by omega) (by omega)) ?_
      rintro _ wA7 ⟨gA7, rfl, hgA7, hgA7', hb, hf⟩
      refine ⟨trivial, ?_⟩
      have HO7 := Lib.hid (own_of_blk (base := w6.heap.size) hb hgA7 (by rw [List.length_replicate]; unfold maxLen; omega) 8 (by rw [List.length_replicate]; omega))
      have HG7 := Lib.hid (Fr.drew (Fr.refl (S := Nowhere) (w := w6)) |>.then0 hf)
      clear hb hf
      refine seq_does (some 71) (by kernel_rfl) rfl rfl rfl (does_append (.tmp 68) (.tmp 70) 22 rfl w6.heap.size 5 (.int .u8 0) 1 Tryd.underlying22 info_byte rfl _ 8 _ rfl HO7.out (some ⟨gl, 8, none⟩) 504 504 (bvs (blankTail 1 247)) rfl
        (rd_blk (HLL.out.fr0 HG7.out) 8 504 _ (by rw [hd_len _ rfl]; omega) (hd_drop _ rfl 1 247)) (bvs_one _) (by unfold maxLen; omega) (by omega) HG7.out.size) ?_
      rintro v8 wA8 ⟨ho, hg, _⟩
      refine ⟨trivial, ?_⟩
      have HG8 := Lib.hid (Fr.app HG7.out HO7.out (Nat.le_refl _) hg)
      rw [← zerosB_bvs, show (bvs (zerosB 8)).take 8 = bvs z8 from rfl, ← bvs_append] at ho
      obtain ⟨A8, c8, rfl, _, _, hrd, _⟩ := own_form ho
      refine seq_call (some 72) (by kernel_rfl) rfl rfl rfl (by kernel_rfl) (sum_any A8 512 c8 (z8 ++ blankTail 1 247) wA8 (by omega) hrd) ?_
      rintro e wA9 ⟨rfl, hf⟩
      have HG9 := Lib.hid (HG8.out.then0 hf)
      clear ho hg hrd hf HO7 HG7 HG8
      refine ⟨_, rfl, trivial, ?_⟩
      refine seq_take (some 5) (.int .u64 ((fnv fnv0 (z8 ++ blankTail 1 247) : Nat) : Int)) (by kernel_rfl) (by kernel_rfl) rfl rfl rfl (fun _ _ => rfl) trivial ?_
      refine seq_done (by kernel_rfl) ?_
      go_frame
      go_wp2_with fail
      have HNO := Lib.hid long_no
      generalize fnv fnv0 (z8 ++ blankTail 1 247) = s1 at *
      replace HLL := Lib.hid (HLL.out.fr0 HG9.out)
      replace HBP := Lib.hid (HBP.out.fr0 HG9.out)
      have HFA9 := Lib.hid (HF6.out.then0 HG9.out)
      have hsA9 : w6.heap.size ≤ wA9.heap.size := HG9.out.size
      clear HG9 HF6
      go_loopw [6] (fun i wr => ∃ k : Nat, k ≤ 8 ∧ i = .int .i64 k ∧ Blk wr gl 5 (bvs (fillHd (z8) s1 k ++ blankTail 1 247)) ∧ Fr (fun j => j = gl) wA9 wr) (fun i _ => 8 - (intOf i).toNat)
      case atStart => exact ⟨0, by omega, rfl, by rw [fillHd_zero _ _ rfl]; exact HLL.out, Fr.refl⟩
      case round =>
        obtain ⟨k, hk, rfl, hb, hfr⟩ := hrel
        have HB := Lib.hid hb
        have HFR := Lib.hid hfr
        clear hb hfr
        by_cases hlt8 : k < 8
        · obtain ⟨u, hcu⟩ : ∃ u, wr.cell? ⟨gl, 7 - k, none⟩ = some u := ⟨_, (HB.out.cell (7 - k)).trans (List.getElem?_eq_getElem (by rw [bvs_length, List.length_append, fillHd_length _ _ _ rfl hk]; omega))⟩
          have hfu := HB.out.frozen (7 - k)
          have hd8 : decide ((k : Int) < 8) = true := by simp; omega
          go_wp2
          go_roundw
          case rel =>
            refine ⟨k + 1, by omega, by go_num, ?_, HFR.out.setCell (fun _ => rfl) _⟩
            have h := HB.out.set (7 - k) (.int .u8 ((s1 : Int) / 2 ^ (8 * k) % 256))
            rwa [fillHd_step _ _ _ _ rfl hlt8] at h
          case measure => simp [intOf]; omega
        · obtain rfl : k = 8 := by omega
          replace HB : Hid (Blk wr gl 5 (bvs (be8 s1 ++ blankTail 1 247))) := Lib.hid (by have h := HB.out; rwa [fillHd_all] at h)
          have HBPA := Lib.hid (HBP.out.fr HFR.out (by omega))
          have HFA := Lib.hid (HFA9.out.step HFR.out (fun j hj e => by have := HF.out.size; omega))
          have hszA : wA9.heap.size ≤ wr.heap.size := HFR.out.size
          clear HBP HFA9 HFR
          obtain ⟨wA, rfl⟩ : ∃ W : World, W = wr := ⟨_, rfl⟩
          go_wp2_with fail
          refine (decode_no 0 (some ⟨gl, 0, none⟩) 512 _ wA (by omega) (by omega) (rd_blk HB.out 0 512 _ (by rw [hd_len _ (be8_length _)]; omega) (by rw [List.drop_zero]; exact List.take_of_length_le (by rw [hd_len _ (be8_length _)]; omega))) HNO.out).mono ?_
          rintro e wB ⟨rfl, hf⟩
          have HLB := Lib.hid (HB.out.fr0 hf)
          have HBPB := Lib.hid (HBPA.out.fr0 hf)
          have HFB := Lib.hid (HFA.out.then0 hf)
          have hszB : wA.heap.size ≤ wB.heap.size := hf.size
          clear hf HB HBPA HFA HNO
          go_wp2_with (first
            | (refine Does.list rfl (does_store1 5 (.tmp 92) _ rfl gl 9 5 _ (.int .u8 246) rfl rfl rfl HLB.out size_byte (by rw [hd_len _ (be8_length _)]; omega) rfl) ?_
               rintro _ wC ⟨rfl, hb, hf⟩
               have HLL := Lib.hid (show Blk wC gl 5 (bvs (be8 s1 ++ blankTail 1 246)) from (hd_set9 _ (be8_length s1) 1 247 246) ▸ hb)
               have HBP := Lib.hid (HBPB.out.fr hf (by omega))
               have HFC := Lib.hid (HFB.out.step hf (fun j hj e => by have := HF.out.size; omega))
               have hszC : wB.heap.size ≤ wC.heap.size := hf.size
               clear hb hf HLB HBPB HFB)
            | fail)
          go_frame
          refine wp_region_seq [1, 2, 0, 3, 4, 5] (fun _ => True) (by kernel_rfl) (by kernel_rfl) rfl (fun c a t v w h => by cases t <;> exact h) ?_
          refine seq_take (some 94) (.slice (some ⟨gl, 0, none⟩) 512 512) (by kernel_rfl) (by kernel_rfl) rfl rfl rfl (fun _ _ => rfl) trivial ?_
          refine seq_take (some 95) (.slice (some ⟨gl, 8, none⟩) 504 504) (by kernel_rfl) (by kernel_rfl) rfl rfl rfl (fun W _ => exec_sliceFrom 22 5 (.tmp 94) _ rfl (some ⟨gl, 0, none⟩) 512 512 8 8 rfl rfl rfl Tryd.underlying22 size_byte (by omega)) trivial ?_
          refine seq_does (some 93) (by kernel_rfl) rfl rfl rfl (does_make1 22 _ _ rfl 5 (.int .u8 0) 1 8 Tryd.underlying22 info_byte rfl rfl rfl (by omega) (by omega)) ?_
          rintro _ wD7 ⟨gD7, rfl, hgD7, hgD7', hb, hf⟩
          refine ⟨trivial, ?_⟩
          have HO7 := Lib.hid (own_of_blk (base := wC.heap.size) hb hgD7 (by rw [List.length_replicate]; unfold maxLen; omega) 8 (by rw [List.length_replicate]; omega))
          have HG7 := Lib.hid (Fr.drew (Fr.refl (S := Nowhere) (w := wC)) |>.then0 hf)
          clear hb hf
          refine seq_does (some 96) (by kernel_rfl) rfl rfl rfl (does_append (.tmp 93) (.tmp 95) 22 rfl wC.heap.size 5 (.int .u8 0) 1 Tryd.underlying22 info_byte rfl _ 8 _ rfl HO7.out (some ⟨gl, 8, none⟩) 504 504 (bvs (blankTail 1 246)) rfl
            (rd_blk (HLL.out.fr0 HG7.out) 8 504 _ (by rw [hd_len _ (be8_length _)]; omega) (hd_drop _ (be8_length _) 1 246)) (bvs_one _) (by unfold maxLen; omega) (by omega) HG7.out.size) ?_
          rintro v8 wD8 ⟨ho, hg, _⟩
          refine ⟨trivial, ?_⟩
          have HG8 := Lib.hid (Fr.app HG7.out HO7.out (Nat.le_refl _) hg)
          rw [← zerosB_bvs, show (bvs (zerosB 8)).take 8 = bvs z8 from rfl, ← bvs_append] at ho
          obtain ⟨A8, c8, rfl, _, _, hrd, _⟩ := own_form ho
          refine seq_call (some 97) (by kernel_rfl) rfl rfl rfl (by kernel_rfl) (sum_any A8 512 c8 (z8 ++ blankTail 1 246) wD8 (by omega) hrd) ?_
          rintro e wD9 ⟨rfl, hf⟩
          have HG9 := Lib.hid (HG8.out.then0 hf)
          clear ho hg hrd hf HO7 HG7 HG8
          refine ⟨_, rfl, trivial, ?_⟩
          refine seq_take (some 5) (.int .u64 ((fnv fnv0 (z8 ++ blankTail 1 246) : Nat) : Int)) (by kernel_rfl) (by kernel_rfl) rfl rfl rfl (fun _ _ => rfl) trivial ?_
          refine seq_done (by kernel_rfl) ?_
          go_frame
          go_wp2_with fail
          have HYE := Lib.hid long_yes
          generalize fnv fnv0 (z8 ++ blankTail 1 246) = s2 at *
          replace HLL := Lib.hid (HLL.out.fr0 HG9.out)
          replace HBP := Lib.hid (HBP.out.fr0 HG9.out)
          have HFD9 := Lib.hid (HFC.out.then0 HG9.out)
          have hsD9 : wC.heap.size ≤ wD9.heap.size := HG9.out.size
          clear HG9 HFC
          go_loopw [9] (fun i wr => ∃ k : Nat, k ≤ 8 ∧ i = .int .i64 k ∧ Blk wr gl 5 (bvs (fillHd (be8 s1) s2 k ++ blankTail 1 246)) ∧ Fr (fun j => j = gl) wD9 wr) (fun i _ => 8 - (intOf i).toNat)
          case atStart => exact ⟨0, by omega, rfl, by rw [fillHd_zero _ _ (be8_length _)]; exact HLL.out, Fr.refl⟩
          case round =>
            obtain ⟨k, hk, rfl, hb, hfr⟩ := hrel
            have HB := Lib.hid hb
            have HFR := Lib.hid hfr
            clear hb hfr
            by_cases hlt8 : k < 8
            · obtain ⟨u, hcu⟩ : ∃ u, wr.cell? ⟨gl, 7 - k, none⟩ = some u := ⟨_, (HB.out.cell (7 - k)).trans (List.getElem?_eq_getElem (by rw [bvs_length, List.length_append, fillHd_length _ _ _ (be8_length _) hk]; omega))⟩
              have hfu := HB.out.frozen (7 - k)
              have hd8 : decide ((k : Int) < 8) = true := by simp; omega
              go_wp2
              go_roundw
              case rel =>
                refine ⟨k + 1, by omega, by go_num, ?_, HFR.out.setCell (fun _ => rfl) _⟩
                have h := HB.out.set (7 - k) (.int .u8 ((s2 : Int) / 2 ^ (8 * k) % 256))
                rwa [fillHd_step _ _ _ _ (be8_length _) hlt8] at h
              case measure => simp [intOf]; omega
            · obtain rfl : k = 8 := by omega
              replace HB : Hid (Blk wr gl 5 (bvs (be8 s2 ++ blankTail 1 246))) := Lib.hid (by have h := HB.out; rwa [fillHd_all] at h)
              have HBPD := Lib.hid (HBP.out.fr HFR.out (by omega))
              have HFD := Lib.hid (HFD9.out.step HFR.out (fun j hj e => by have := HF.out.size; omega))
              have hszD : wD9.heap.size ≤ wr.heap.size := HFR.out.size
              clear HBP HFD9 HFR
              obtain ⟨wD, rfl⟩ : ∃ W : World, W = wr := ⟨_, rfl⟩
              go_wp2_with fail
              have HYE2 := Lib.hid (page_ok 0 (zerosB 502) (by rw [zerosB_length]; omega))
              have HYL := Lib.hid ((page_long 0 (zerosB 502) (by rw [zerosB_length]; omega)).trans (zerosB_length 502))
              rw [← HYE.out] at HYE2 HYL
              refine (decode_yes 0 (some ⟨gl, 0, none⟩) 512 _ wD (by omega) (by omega) (rd_blk HB.out 0 512 _ (by rw [hd_len _ (be8_length _)]; omega) (by rw [List.drop_zero]; exact List.take_of_length_le (by rw [hd_len _ (be8_length _)]; omega))) HYE2.out).mono ?_
              rintro e wE ⟨⟨vf, rfl, ho⟩, hf⟩
              rw [HYL.out] at ho
              obtain ⟨Af, cf, rfl, _, _, _, _⟩ := own_form ho
              have HBPE := Lib.hid (HBPD.out.fr0 hf)
              have HFE := Lib.hid (HFD.out.then0 hf)
              clear ho hf HB HBPD HFD HYE HYE2 HYL
              have HRP := Lib.hid (rd_blk HBPE.out 0 512 (bvs (pageOf 0 [])) (by rw [List.length_append, bvs_length, HPL.out]; omega) (by rw [List.drop_zero]; exact List.take_left' (by rw [bvs_length, HPL.out])))
              go_wp2_with fail
              refine (decode_yes 0 (some ⟨gp, 0, none⟩) cp _ wE (by omega) hcp HRP.out (page_ok 0 [] (by simp))).mono ?_
              rintro e wF ⟨⟨vb, rfl, ho⟩, hf⟩
              rw [page_long 0 [] (by simp)] at ho
              obtain ⟨Ab, cb, rfl, _, _, _, _⟩ := own_form ho
              have HFF := Lib.hid (HFE.out.then0 hf)
              have HRPF := Lib.hid (HRP.out.fr0 hf)
              clear ho hf HFE HRP HBPE
              go_wp2_with (first
                | (refine Does.list rfl (does_make1 22 _ _ rfl 5 (.int .u8 0) 1 502 Tryd.underlying22 info_byte rfl rfl rfl (by omega) (by omega)) ?_
                   rintro _ wG ⟨gG, rfl, hgG, hgG', hb, hf⟩
                   have HBG := Lib.hid hb
                   have HFG := Lib.hid (HFF.out.then0 hf)
                   have HRPG := Lib.hid (HRPF.out.fr0 hf)
                   clear hb hf
                   go_frame)
                | fail)
              refine (encode_ok 7 (some ⟨gG, 0, none⟩) 502 502 (zerosB 502) wG (by omega) (by omega) (rd_zeros HBG.out)).mono ?_
              rintro e wH ⟨v7, rfl, ho, hf⟩
              have HFH := Lib.hid (HFG.out.then0 hf)
              have HRPH := Lib.hid (HRPG.out.fr0 hf)
              clear ho hf HBG
              go_wp2_with (first
                | (refine Does.list rfl (does_make1 22 _ _ rfl 5 (.int .u8 0) 1 503 Tryd.underlying22 info_byte rfl rfl rfl (by omega) (by omega)) ?_
                   rintro _ wI ⟨gI, rfl, hgI, hgI', hb, hf⟩
                   have HFI := Lib.hid (HFH.out.then0 hf)
                   have HRPI := Lib.hid (HRPH.out.fr0 hf)
                   clear hb hf
                   go_frame)
                | fail)
              refine (encode_no 7 (some ⟨gI, 0, none⟩) 503 503 wI (.inr (.inr (by omega)))).mono ?_
              rintro e _ ⟨rfl, rfl⟩
              go_wp2_with fail
              refine (encode_no 16384 none 0 0 wI (.inr (.inl (by omega)))).mono ?_
              rintro e _ ⟨rfl, rfl⟩
              go_wp2_with fail
              refine (encode_no (-1) none 0 0 wI (.inl (by omega))).mono ?_
              rintro e _ ⟨rfl, rfl⟩
              go_wp2_with fail
              refine (decode_arg 0 (some ⟨gp, 0, none⟩) 511 cp wI (.inr (.inr (by omega)))).mono ?_
              rintro e _ ⟨rfl, rfl⟩
              go_wp2_with fail
              refine (decode_arg 16384 (some ⟨gp, 0, none⟩) 512 cp wI (.inr (.inl (by omega)))).mono ?_
              rintro e _ ⟨rfl, rfl⟩
              go_wp2_with (first
                | (at_builtin
                   refine Does.list rfl (does_append (.tmp 162) (.tmp 163) 22 rfl wI.heap.size 5 (.int .u8 0) 1 Tryd.underlying22 info_byte rfl _ 0 [] rfl (own_new0 wI 5) (some ⟨gp, 0, none⟩) 512 cp (bvs (pageOf 0 [])) rfl (HRPI.out.fr0 (Fr.refl.alloc _)) (bvs_one _) (by unfold maxLen; omega) (by omega) (by simp)) ?_
                   rintro vJ wJ ⟨ho, hg, _⟩
                   have HGJ := Lib.hid (Fr.app (S := Nowhere) (w0 := wI) (Fr.refl.alloc _) (own_new0 wI 5) (Nat.le_refl _) hg)
                   have HOJ := Lib.hid ho
                   clear ho hg
                   go_frame)
                | (at_builtin
                   refine Does.list rfl (does_append (.tmp 164) (.tmp 165) 22 rfl wI.heap.size 5 (.int .u8 0) 1 Tryd.underlying22 info_byte rfl _ (0 + 512) _ rfl (HOJ.out.alloc _) (some ⟨wJ.heap.size, 0, none⟩) 1 1 [.int .u8 0] rfl (rd_new1 _ _ _) (by simp [Value.oneCell']) (by unfold maxLen; omega) (by omega) (by have := HGJ.out.size; simp; omega)) ?_
                   rintro vK wK ⟨ho, hg, _⟩
                   have HGK := Lib.hid (Fr.app (HGJ.out.alloc _) (HOJ.out.alloc _) (Nat.le_refl _) hg)
                   obtain ⟨AK, cK, rfl, _, _, _, _⟩ := own_form ho
                   clear ho hg
                   go_frame)
                | fail)
              refine (decode_arg 0 AK _ cK wK (.inr (.inr (by omega)))).mono ?_
              rintro e _ ⟨rfl, rfl⟩
              go_wp2_with fail
              refine (decode_arg (-1) none 0 0 wK (.inl (by omega))).mono ?_
              rintro e _ ⟨rfl, rfl⟩
              go_wp2_with fail
              refine (encode_ok 16383 none 0 0 [] wK (by omega) (by omega) Rd.nil).mono ?_
              rintro e wL ⟨vL, rfl, _, hf⟩
              have HFL := Lib.hid ((HFI.out.then0 HGK.out).then0 hf)
              clear hf
              go_wp2
              go_ret
              exact ⟨rfl, HFL.out⟩

theorem pageNames_walk (w : World) : Calls Tryd.prog 4 #[] w fun e w' => e = .returned (.bool true) ∧ Below w.heap.size w w' :=
  (pageNames_any w).mono fun _ _ ⟨he, hf⟩ => ⟨he, hf.below⟩
end Go.Proofs.YtnkodmkoomifaaaDoor
