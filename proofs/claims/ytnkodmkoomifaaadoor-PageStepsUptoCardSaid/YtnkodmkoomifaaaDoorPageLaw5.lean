/- The law PageSteps, walked, for slices that are not too long. -/
import Derived.Test.YtnkodmkoomifaaaDoorPageLaw4
namespace Go.Proofs.YtnkodmkoomifaaaDoor
open Go.RowKit

set_option maxRecDepth 100000 in
set_option maxHeartbeats 2000000 in
theorem pageSteps_idle (A0 : Option Addr) (len0 cap0 : Nat) (at_ : Int) (y : Int) (A3 : Option Addr) (len3 cap3 : Nat) (w : World) (h : len0 = 0 ∨ y = 0) :
    Calls Tryd.prog 8 #[.slice A0 len0 cap0, .int .i64 at_, .int .u8 y, .slice A3 len3 cap3] w fun e w' => e = .returned (.bool true) ∧ Fr0 w w' := by
  by_cases h0 : len0 = 0
  · subst h0
    clear h
    go_enter Tryd.func8, Tryd.ntmps8
    go_wp2_with fail
    refine (works_any _).mono ?_
    rintro e w1 ⟨rfl, hf⟩
    have HF := Lib.hid hf
    clear hf
    go_wp2
    go_ret
    exact ⟨rfl, HF.out⟩
  · obtain rfl : y = 0 := by omega
    have hl0 : ((len0 : Int) == 0) = false := by rw [beq_eq_false_iff_ne]; omega
    clear h h0
    go_enter Tryd.func8, Tryd.ntmps8
    go_wp2_with fail
    refine (works_any _).mono ?_
    rintro e w1 ⟨rfl, hf⟩
    have HF := Lib.hid hf
    clear hf
    go_wp2
    go_ret
    exact ⟨rfl, HF.out⟩

set_option maxRecDepth 100000 in
set_option maxHeartbeats 4000000 in
theorem pageSteps_some (A0 : Option Addr) (len0 cap0 : Nat) (a : List UInt8) (at_ : Int) (y : UInt8) (A3 : Option Addr) (len3 cap3 : Nat) (z : List UInt8) (w : World)
    (hr0 : Rd w A0 len0 (bvs a)) (hr3 : Rd w A3 len3 (bvs z)) (h0 : 0 < len0) (hm0 : len0 ≤ 1048576) (hm3 : len3 ≤ 1048576) (hy : y ≠ 0) :
    Calls Tryd.prog 8 #[.slice A0 len0 cap0, .int .i64 at_, .int .u8 (y.toNat : Int), .slice A3 len3 cap3] w fun e w' => e = .returned (.bool true) ∧ Fr0 w w' := by
  have HR0 := Lib.hid hr0
  have HR3 := Lib.hid hr3
  have HY := Lib.hid hy
  have hy0 : ((y.toNat : Int) == 0) = false := by
    rw [beq_eq_false_iff_ne]; intro h; exact hy (UInt8.toNat_inj.1 (by simpa using h))
  have hl0 : ((len0 : Int) == 0) = false := by rw [beq_eq_false_iff_ne]; omega
  have hyb : y.toNat < 256 := y.toNat_lt
  have HAL := Lib.hid (show a.length = len0 by rw [← bvs_length, hr0.1])
  clear hr0 hr3 hy
  obtain ⟨k, hk, hk2⟩ : ∃ k : Nat, (IntKind.u64.wrap at_).tmod (len0 : Int) = (k : Int) ∧ k < len0 := by
    have h1 := wrap_u64_nonneg at_
    rw [Int.tmod_eq_emod_of_nonneg h1]
    have h2 := Int.emod_nonneg (IntKind.u64.wrap at_) (show (len0 : Int) ≠ 0 by omega)
    have h3 := Int.emod_lt_of_pos (IntKind.u64.wrap at_) (show (0 : Int) < (len0 : Int) by omega)
    exact ⟨(IntKind.u64.wrap at_ % (len0 : Int)).toNat, by omega, by omega⟩
  obtain ⟨c, hc⟩ : ∃ c, a[k]? = some c := ⟨_, List.getElem?_eq_getElem (by rw [HAL.out]; exact hk2)⟩
  have HC := Lib.hid hc
  have hcb : c.toNat < 256 := c.toNat_lt
  clear hc
  go_enter Tryd.func8, Tryd.ntmps8
  go_wp2_with fail
  refine (works_any _).mono ?_
  rintro e w1 ⟨rfl, hf⟩
  have HF := Lib.hid hf
  have hs1 : w.heap.size ≤ w1.heap.size := hf.size
  clear hf
  go_wp2_with (first
    | (at_builtin
       refine Does.list rfl (does_append (.tmp 22) (.tmp 23) 22 rfl w1.heap.size 5 (.int .u8 0) 1 Tryd.underlying22 info_byte rfl _ 0 [] rfl (own_new0 w1 5) A0 len0 cap0 (bvs a) rfl ((HR0.out.fr0 HF.out).fr0 (Fr.refl.alloc _)) (bvs_one _) (by unfold maxLen; omega) (by omega) (by simp)) ?_
       rintro vb w2 ⟨ho, hg, _⟩
       have HF2 := Lib.hid (Fr.app (S := Nowhere) (HF.out.alloc _) (own_new0 w1 5) hs1 hg)
       rw [Nat.zero_add, List.nil_append] at ho
       obtain ⟨g, cb, rest, rfl, hgb, hcb2, hbk, hlk⟩ := own_blk ho (by omega)
       have HBK := Lib.hid hbk
       have hcell : w2.cell? ⟨g, k, none⟩ = some (.int .u8 (c.toNat : Int)) := by
         rw [hbk.cell, List.getElem?_append_left (by rw [bvs_length, HAL.out]; exact hk2), bvs_getElem?, HC.out]; rfl
       have hfz := hbk.frozen k
       clear ho hg hbk hlk)
    | (refine Does.list rfl (does_store1 5 (.tmp 38) (.tmp 37) rfl g k 5 (bvs a ++ rest) (.int .u8 (bits BinOp.xor IntKind.u8 (c.toNat : Int) (y.toNat : Int))) rfl rfl rfl HBK.out size_byte (by rw [List.length_append, bvs_length, HAL.out]; omega) rfl) ?_
       rintro _ w3 ⟨rfl, hb, hf⟩
       have HB3 := Lib.hid hb
       have HF3 := Lib.hid (HF2.out.step hf (fun j hj e => by omega))
       clear hb hf hcell hfz HBK)
    | (at_builtin
       refine Does.list rfl (does_append (.tmp 39) (.tmp 40) 22 rfl w3.heap.size 5 (.int .u8 0) 1 Tryd.underlying22 info_byte rfl _ 0 [] rfl (own_new0 w3 5) A0 len0 cap0 (bvs a) rfl ((HR0.out.fr0 HF3.out).fr0 (Fr.refl.alloc _)) (bvs_one _) (by unfold maxLen; omega) (by omega) (by simp)) ?_
       rintro v4 w4 ⟨ho, hg, _⟩
       have HG4 := Lib.hid (Fr.app (S := Nowhere) (w0 := w3) (Fr.refl.alloc _) (own_new0 w3 5) (Nat.le_refl _) hg)
       rw [Nat.zero_add, List.nil_append] at ho
       have HO4 := Lib.hid ho
       clear ho hg)
    | (at_builtin
       refine Does.list rfl (does_append (.tmp 41) (.tmp 42) 22 rfl w3.heap.size 5 (.int .u8 0) 1 Tryd.underlying22 info_byte rfl _ len0 (bvs a) rfl (HO4.out) A3 len3 cap3 (bvs z) rfl ((HR3.out.fr0 HF3.out).fr0 HG4.out) (bvs_one _) (by unfold maxLen; omega) (by omega) (HG4.out.size)) ?_
       rintro v5 w5 ⟨ho, hg, _⟩
       have HG5 := Lib.hid (Fr.app HG4.out HO4.out (Nat.le_refl _) hg)
       rw [← bvs_append] at ho
       have HO5 := Lib.hid ho
       clear ho hg HO4 HG4)
    | fail)
  rw [u8_xor_nat c.toNat y.toNat hcb hyb, ← UInt8.toNat_xor] at HB3
  have HB3' : Hid (Blk w3 g 5 (bvs (a.set k (c ^^^ y)) ++ rest)) := Lib.hid (by
    have h := HB3.out
    rwa [List.set_append_left _ _ (by rw [bvs_length, HAL.out]; exact hk2), show (bvs a).set k (.int .u8 ((c ^^^ y).toNat : Int)) = bvs (a.set k (c ^^^ y)) from by simp [bvs, List.map_set, bv]] at h)
  clear HB3
  have HKL := Lib.hid (show k < a.length by rw [HAL.out]; exact hk2)
  have HNE1 := Lib.hid (fnv_set (s := fnv0) fnv0_lt HKL.out (d := c ^^^ y) (fun h => HY.out (xor_self8 (h.trans (by
    have := HC.out; rw [List.getElem?_eq_getElem HKL.out] at this; simpa using this)))))
  have HNE2 := Lib.hid (show fnv fnv0 (a ++ z) ≠ fnv fnv0 (a.set k (c ^^^ y) ++ z) by
    rw [fnv_append, fnv_append]; intro h
    exact HNE1.out (fnv_state z (fnv_lt _ fnv0_lt _) (fnv_lt _ fnv0_lt _) h).symm)
  have HBL := Lib.hid (show (a.set k (c ^^^ y)).length = len0 by rw [List.length_set, HAL.out])
  generalize a.set k (c ^^^ y) = bb at *
  obtain ⟨A5, c5, rfl, _, _, hrd, _⟩ := own_form HO5.out
  refine (sum_any A5 (len0 + len3) c5 (a ++ z) w5 (by omega) hrd).mono ?_
  rintro e w6 ⟨rfl, hf⟩
  have HG6 := Lib.hid (HG5.out.then0 hf)
  clear hf hrd HO5 HG5
  have HRB := Lib.hid (rd_blk HB3'.out 0 len0 (bvs bb) (by rw [List.length_append, bvs_length, HBL.out]; omega) (by rw [List.drop_zero]; exact List.take_left' (by rw [bvs_length, HBL.out])))
  have hs6 := HG6.out.size
  go_wp2_with (first
    | (at_builtin
       refine Does.list rfl (does_append (.tmp 45) (.tmp 46) 22 rfl w6.heap.size 5 (.int .u8 0) 1 Tryd.underlying22 info_byte rfl _ 0 [] rfl (own_new0 w6 5) (some ⟨g, 0, none⟩) len0 cb (bvs bb) rfl ((HRB.out.fr0 HG6.out).fr0 (Fr.refl.alloc _)) (bvs_one _) (by unfold maxLen; omega) (by omega) (by simp)) ?_
       rintro v7 w7 ⟨ho, hg, _⟩
       have HG7 := Lib.hid (Fr.app (S := Nowhere) (w0 := w6) (Fr.refl.alloc _) (own_new0 w6 5) (Nat.le_refl _) hg)
       rw [Nat.zero_add, List.nil_append] at ho
       have HO7 := Lib.hid ho
       clear ho hg)
    | (at_builtin
       refine Does.list rfl (does_append (.tmp 47) (.tmp 48) 22 rfl w6.heap.size 5 (.int .u8 0) 1 Tryd.underlying22 info_byte rfl _ len0 (bvs bb) rfl (HO7.out) A3 len3 cap3 (bvs z) rfl (((HR3.out.fr0 HF3.out).fr0 HG6.out).fr0 HG7.out) (bvs_one _) (by unfold maxLen; omega) (by omega) (HG7.out.size)) ?_
       rintro v8 w8 ⟨ho, hg, _⟩
       have HG8 := Lib.hid (Fr.app HG7.out HO7.out (Nat.le_refl _) hg)
       rw [← bvs_append] at ho
       have HO8 := Lib.hid ho
       clear ho hg HO7 HG7)
    | fail)
  obtain ⟨A8, c8, rfl, _, _, hrd, _⟩ := own_form HO8.out
  refine (sum_any A8 (len0 + len3) c8 (bb ++ z) w8 (by omega) hrd).mono ?_
  rintro e w9 ⟨rfl, hf⟩
  have HG9 := Lib.hid (HG6.out.then0 (HG8.out.then0 hf))
  clear hf hrd HO8 HG8 HG6
  have hne2 : (((fnv fnv0 (a ++ z) : Nat) : Int) != ((fnv fnv0 (bb ++ z) : Nat) : Int)) = true := by
    rw [bne_iff_ne]; intro h; exact HNE2.out (by omega)
  have hne1 : (((fnv fnv0 a : Nat) : Int) != ((fnv fnv0 bb : Nat) : Int)) = true := by
    rw [bne_iff_ne]; intro h; exact HNE1.out (by omega)
  go_wp2_with fail
  refine (sum_any A0 len0 cap0 a w9 (by omega) ((HR0.out.fr0 HF3.out).fr0 HG9.out)).mono ?_
  rintro e w10 ⟨rfl, hf⟩
  have HG10 := Lib.hid (HG9.out.then0 hf)
  clear hf
  go_wp2_with fail
  refine (sum_any (some ⟨g, 0, none⟩) len0 cb bb w10 (by omega) (HRB.out.fr0 HG10.out)).mono ?_
  rintro e w11 ⟨rfl, hf⟩
  have HF11 := Lib.hid (HF3.out.then0 (HG10.out.then0 hf))
  clear hf
  go_wp2
  go_ret
  exact ⟨rfl, HF11.out⟩

theorem pageSteps_walk (a0 : Option Addr) (len0 cap0 : Nat) (l0 : List UInt8) (a1 a2 : Int) (a3 : Option Addr) (len3 cap3 : Nat) (l3 : List UInt8) (w : World) (hr0 : Rd w a0 len0 (bvs l0)) (hr3 : Rd w a3 len3 (bvs l3))
    (h2 : (Lit.int .u8 a2).wf = true) (hm0 : len0 ≤ 1048576) (hm3 : len3 ≤ 1048576) :
    Calls Tryd.prog 8 #[.slice a0 len0 cap0, .int .i64 a1, .int .u8 a2, .slice a3 len3 cap3] w fun e w' => e = .returned (.bool true) ∧ Below w.heap.size w w' := by
  have hb3 := bounds_u8 h2
  by_cases h : len0 = 0 ∨ a2 = 0
  · exact (pageSteps_idle a0 len0 cap0 a1 a2 a3 len3 cap3 w h).mono fun e w' ⟨he, hf⟩ => ⟨he, hf.below⟩
  · obtain ⟨y, hy⟩ : ∃ y : UInt8, a2 = (y.toNat : Int) := ⟨UInt8.ofNat a2.toNat, by rw [UInt8.toNat_ofNat']; omega⟩
    subst hy
    exact (pageSteps_some a0 len0 cap0 l0 a1 y a3 len3 cap3 l3 w hr0 hr3 (by omega) hm0 hm3 (fun h0 => h (.inr (by rw [h0]; rfl)))).mono fun e w' ⟨he, hf⟩ => ⟨he, hf.below⟩
end Go.Proofs.YtnkodmkoomifaaaDoor
