/- Contract of page.Decode. -/
import Derived.Test.YtchhiheoejchhaaGreatDoorPgEncode
import Derived.Test.YtchhiheoejchhaaGreatDoorTrim
namespace Go.Proofs.YtchhiheoejchhaaGreatDoor
open Go.RowKit

theorem decode_arg (n : Int) (A : Option Addr) (len cap : Nat) (w : World) (h : n < 0 ∨ 16383 < n ∨ len ≠ 512) :
    Calls Tryz.prog 94 #[.int .i64 n, .slice A len cap] w fun e w' =>
      e = .returned (.tuple #[.slice none 0 0, .int .i64 1]) ∧ w = w' := by
  by_cases h1 : n < 0
  · clear h
    go_enter Tryz.func94, Tryz.ntmps94
    go_wp2
    go_ret2
    exact ⟨rfl, rfl⟩
  · by_cases h2 : 16383 < n
    · clear h
      go_enter Tryz.func94, Tryz.ntmps94
      go_wp2
      go_ret2
      exact ⟨rfl, rfl⟩
    · have h3 : ((len : Int) != 512) = true := by rw [bne_iff_ne]; omega
      clear h
      go_enter Tryz.func94, Tryz.ntmps94
      go_wp2
      go_ret2
      exact ⟨rfl, rfl⟩

def longOf (p : List UInt8) : Nat := (p.getD 8 0).toNat * 256 + (p.getD 9 0).toNat
def DecOk (n : Nat) (p : List UInt8) : Prop := longOf p ≤ 502 ∧ be8 (pageSum n (p.drop 8)) ++ p.drop 8 = p ∧ ∀ c ∈ p.drop (10 + longOf p), c = 0

theorem or_eq (a b : Nat) (ha : a < 256) (hb : b < 256) : bits BinOp.or IntKind.i64 ((a : Int) * 256) (b : Int) = ((a * 256 + b : Nat) : Int) := by
  have h1 : (BitVec.ofInt 64 ((a : Int) * 256)).toNat = a * 256 := by
    rw [show ((a : Int) * 256) = ((a * 256 : Nat) : Int) from by omega, BitVec.ofInt_natCast, BitVec.toNat_ofNat]; omega
  have h2 : (BitVec.ofInt 64 (b : Int)).toNat = b := by
    rw [BitVec.ofInt_natCast, BitVec.toNat_ofNat]; omega
  show IntKind.i64.wrap ((BitVec.ofInt 64 ((a : Int) * 256) ||| BitVec.ofInt 64 (b : Int)).toNat : Int) = _
  rw [BitVec.toNat_or, h1, h2, show a * 256 = 2 ^ 8 * a from by omega, ← Nat.two_pow_add_eq_or_of_lt (by simpa using hb), IntKind.wrap_i64]
  omega

set_option maxRecDepth 100000 in
set_option maxHeartbeats 2000000 in
theorem decode_long (n b off cap : Nat) (p : List UInt8) (w : World) (hn : n ≤ 16383) (hp : p.length = 512) (_hcap : 512 ≤ cap) (hr : Rd w (some ⟨b, off, none⟩) 512 (bvs p)) (hyp : 502 < longOf p) :
    Calls Tryz.prog 94 #[.int .i64 (n : Int), .slice (some ⟨b, off, none⟩) 512 cap] w fun e w' =>
      e = .returned (.tuple #[.slice none 0 0, .int .i64 30]) ∧ Fr0 w w' := by
  have HR := Lib.hid hr
  have HP := Lib.hid hp
  clear hr hp
  obtain ⟨c8, h8⟩ : ∃ c, p[8]? = some c := ⟨_, List.getElem?_eq_getElem (by rw [HP.out]; omega)⟩
  obtain ⟨c9, h9⟩ : ∃ c, p[9]? = some c := ⟨_, List.getElem?_eq_getElem (by rw [HP.out]; omega)⟩
  have hcell8 := rd_byte HR.out h8
  have hcell9 := rd_byte HR.out h9
  have HLG := Lib.hid (show longOf p = c8.toNat * 256 + c9.toNat by simp [longOf, List.getD, h8, h9])
  have hb8 : c8.toNat < 256 := c8.toNat_lt
  have hb9 : c9.toNat < 256 := c9.toNat_lt
  have HY := Lib.hid hyp
  clear h8 h9 hyp
  go_enter Tryz.func94, Tryz.ntmps94
  go_wp2_with fail
  go_quiet (fail)
  go_wp2_with fail
  rw [or_eq c8.toNat c9.toNat hb8 hb9, ← HLG.out]
  clear hcell8 hcell9 hb8 hb9 HLG
  generalize hm : longOf p = m at *
  have HM := Lib.hid hm
  clear hm
  have hlong := HY.out
  have hd : decide ((502 : Int) < (m : Int)) = true := by simp; omega
  have hd' : ((502 : Int) < (m : Int)) = True := by simp; omega
  go_quiet (fail)
  go_wp2
  go_ret2
  exact ⟨rfl, ((Fr.refl.drewN _).drewN _)⟩

set_option maxRecDepth 100000 in
set_option maxHeartbeats 2000000 in
theorem decode_sum (n b off cap : Nat) (p : List UInt8) (w : World) (hn : n ≤ 16383) (hp : p.length = 512) (_hcap : 512 ≤ cap) (hr : Rd w (some ⟨b, off, none⟩) 512 (bvs p)) (hyp : longOf p ≤ 502 ∧ be8 (pageSum n (p.drop 8)) ++ p.drop 8 ≠ p) :
    Calls Tryz.prog 94 #[.int .i64 (n : Int), .slice (some ⟨b, off, none⟩) 512 cap] w fun e w' =>
      e = .returned (.tuple #[.slice none 0 0, .int .i64 30]) ∧ Fr0 w w' := by
  have HR := Lib.hid hr
  have HP := Lib.hid hp
  clear hr hp
  obtain ⟨c8, h8⟩ : ∃ c, p[8]? = some c := ⟨_, List.getElem?_eq_getElem (by rw [HP.out]; omega)⟩
  obtain ⟨c9, h9⟩ : ∃ c, p[9]? = some c := ⟨_, List.getElem?_eq_getElem (by rw [HP.out]; omega)⟩
  have hcell8 := rd_byte HR.out h8
  have hcell9 := rd_byte HR.out h9
  have HLG := Lib.hid (show longOf p = c8.toNat * 256 + c9.toNat by simp [longOf, List.getD, h8, h9])
  have hb8 : c8.toNat < 256 := c8.toNat_lt
  have hb9 : c9.toNat < 256 := c9.toNat_lt
  have HY := Lib.hid hyp
  clear h8 h9 hyp
  go_enter Tryz.func94, Tryz.ntmps94
  go_wp2_with fail
  go_quiet (fail)
  go_wp2_with fail
  rw [or_eq c8.toNat c9.toNat hb8 hb9, ← HLG.out]
  clear hcell8 hcell9 hb8 hb9 HLG
  generalize hm : longOf p = m at *
  have HM := Lib.hid hm
  clear hm
  have hd : decide ((502 : Int) < (m : Int)) = false := by have := HY.out.1; simp; omega
  obtain ⟨X, F, hne, hF, hFi, x0, hx0⟩ := family0 w (w.drewN nq) (Fr.refl.drewN _)
  have HF := Lib.hid hF
  have HFI := Lib.hid hFi
  refine wp_region_fam F (by kernel_rfl) (by kernel_rfl) x0 hx0 ?_
  clear hF hFi hx0
  have harr := fun W : World => run_arrayAt (P := Tryz.prog) W 158 5 512 Tryz.underlying158 (some ⟨b, off, none⟩) 512 cap (Nat.le_refl _)
  iterate 6 (refine wpQuiet_step (fun K hK => ?_); go_simp; refine hK _ ?_; clear hK K)
  refine wpQuiet_val (v := .agg (bvs p).toArray) rfl (fun x => exec_loadRd 158 (.tmp 33) rfl b off 512 (bvs p) (.array 512 5) rfl (HR.out.fr0 (HF.out x)) Tryz.underlying158 rfl size_sheet) ?_
  refine wpQuiet_step (fun K hK => ?_)
  go_simp
  apply Exists.intro
  refine ⟨fun x => ?_, hK _ ?_⟩
  · exact (sealed_any n p (F x) hn HP.out).mono fun e w' ⟨h1, h2⟩ => ⟨h1, HFI.out _ ((HF.out x).then0 h2)⟩
  clear hK K
  iterate 2 (refine wpQuiet_step (fun K hK => ?_); go_simp; refine hK _ ?_; clear hK K)
  refine wpQuiet_val (v := .agg (bvs p).toArray) rfl (fun x => exec_loadRd 158 (.tmp 37) rfl b off 512 (bvs p) (.array 512 5) rfl (HR.out.fr0 (HF.out x)) Tryz.underlying158 rfl size_sheet) ?_
  clear harr
  have heq := fun W : World => run_equalIn_bytes (P := Tryz.prog) W 9998 158 5 512 Tryz.underlying158 Tryz.underlying5 size_byte (be8 (pageSum n (p.drop 8)) ++ p.drop 8) p (by rw [List.length_append, be8_length, List.length_drop, HP.out]) HP.out
  have heg : Tryz.prog.eqGuardType Tryz.prog.depth 158 = false := by kernel_rfl
  generalize hsl : be8 (pageSum n (p.drop 8)) ++ p.drop 8 = sl at *
  have HSL := Lib.hid hsl
  clear hsl
  have hs : (sl == p) = false := by simpa using HY.out.2
  rw [hs] at heq
  refine wpQuiet_step (fun K hK => ?_)
  go_simp
  refine hK _ ?_
  clear hK K heq heg hs
  iterate 10 (refine wpQuiet_step (fun K hK => ?_); go_simp; refine hK _ ?_; clear hK K)
  refine wpQuiet_nil ?_
  rintro _ ⟨x, rfl⟩
  go_wp2
  go_ret2
  exact ⟨rfl, HF.out x⟩

set_option maxRecDepth 100000 in
set_option maxHeartbeats 2000000 in
theorem decode_tail (n b off cap : Nat) (p : List UInt8) (w : World) (hn : n ≤ 16383) (hp : p.length = 512) (hcap : 512 ≤ cap) (hr : Rd w (some ⟨b, off, none⟩) 512 (bvs p)) (hyp : longOf p ≤ 502 ∧ be8 (pageSum n (p.drop 8)) ++ p.drop 8 = p ∧ ¬ ∀ c ∈ p.drop (10 + longOf p), c = 0) :
    Calls Tryz.prog 94 #[.int .i64 (n : Int), .slice (some ⟨b, off, none⟩) 512 cap] w fun e w' =>
      e = .returned (.tuple #[.slice none 0 0, .int .i64 30]) ∧ Fr0 w w' := by
  have HR := Lib.hid hr
  have HP := Lib.hid hp
  clear hr hp
  obtain ⟨c8, h8⟩ : ∃ c, p[8]? = some c := ⟨_, List.getElem?_eq_getElem (by rw [HP.out]; omega)⟩
  obtain ⟨c9, h9⟩ : ∃ c, p[9]? = some c := ⟨_, List.getElem?_eq_getElem (by rw [HP.out]; omega)⟩
  have hcell8 := rd_byte HR.out h8
  have hcell9 := rd_byte HR.out h9
  have HLG := Lib.hid (show longOf p = c8.toNat * 256 + c9.toNat by simp [longOf, List.getD, h8, h9])
  have hb8 : c8.toNat < 256 := c8.toNat_lt
  have hb9 : c9.toNat < 256 := c9.toNat_lt
  have HY := Lib.hid hyp
  clear h8 h9 hyp
  go_enter Tryz.func94, Tryz.ntmps94
  go_wp2_with fail
  go_quiet (fail)
  go_wp2_with fail
  rw [or_eq c8.toNat c9.toNat hb8 hb9, ← HLG.out]
  clear hcell8 hcell9 hb8 hb9 HLG
  generalize hm : longOf p = m at *
  have HM := Lib.hid hm
  clear hm
  have hd : decide ((502 : Int) < (m : Int)) = false := by have := HY.out.1; simp; omega
  obtain ⟨X, F, hne, hF, hFi, x0, hx0⟩ := family0 w (w.drewN nq) (Fr.refl.drewN _)
  have HF := Lib.hid hF
  have HFI := Lib.hid hFi
  refine wp_region_fam F (by kernel_rfl) (by kernel_rfl) x0 hx0 ?_
  clear hF hFi hx0
  have harr := fun W : World => run_arrayAt (P := Tryz.prog) W 158 5 512 Tryz.underlying158 (some ⟨b, off, none⟩) 512 cap (Nat.le_refl _)
  iterate 6 (refine wpQuiet_step (fun K hK => ?_); go_simp; refine hK _ ?_; clear hK K)
  refine wpQuiet_val (v := .agg (bvs p).toArray) rfl (fun x => exec_loadRd 158 (.tmp 33) rfl b off 512 (bvs p) (.array 512 5) rfl (HR.out.fr0 (HF.out x)) Tryz.underlying158 rfl size_sheet) ?_
  refine wpQuiet_step (fun K hK => ?_)
  go_simp
  apply Exists.intro
  refine ⟨fun x => ?_, hK _ ?_⟩
  · exact (sealed_any n p (F x) hn HP.out).mono fun e w' ⟨h1, h2⟩ => ⟨h1, HFI.out _ ((HF.out x).then0 h2)⟩
  clear hK K
  iterate 2 (refine wpQuiet_step (fun K hK => ?_); go_simp; refine hK _ ?_; clear hK K)
  refine wpQuiet_val (v := .agg (bvs p).toArray) rfl (fun x => exec_loadRd 158 (.tmp 37) rfl b off 512 (bvs p) (.array 512 5) rfl (HR.out.fr0 (HF.out x)) Tryz.underlying158 rfl size_sheet) ?_
  clear harr
  have heq := fun W : World => run_equalIn_bytes (P := Tryz.prog) W 9998 158 5 512 Tryz.underlying158 Tryz.underlying5 size_byte (be8 (pageSum n (p.drop 8)) ++ p.drop 8) p (by rw [List.length_append, be8_length, List.length_drop, HP.out]) HP.out
  have heg : Tryz.prog.eqGuardType Tryz.prog.depth 158 = false := by kernel_rfl
  generalize hsl : be8 (pageSum n (p.drop 8)) ++ p.drop 8 = sl at *
  have HSL := Lib.hid hsl
  clear hsl
  have hs : (sl == p) = true := by simpa using HY.out.2.1
  rw [hs] at heq
  refine wpQuiet_step (fun K hK => ?_)
  go_simp
  refine hK _ ?_
  clear hK K heq heg hs
  have hm5 : m ≤ 502 := HY.out.1
  have hw1 : IntKind.i64.wrap (10 + (m : Int)) = 10 + (m : Int) := IntWalk.i64_in _ (by omega)
  iterate 5 (refine wpQuiet_step (fun K hK => ?_); go_simp; refine hK _ ?_; clear hK K)
  have HRD := Lib.hid (HR.out.cut (k := 10 + m) (cap := cap) (by omega) hcap)
  refine wpQuiet_val (v := .slice (if cap = 10 + m then (some ⟨b, off, none⟩ : Option Addr) else (some ⟨b, off, none⟩ : Option Addr).map (·.add (10 + m))) (512 - (10 + m)) (cap - (10 + m))) rfl (fun x => exec_sliceFrom 28 5 (.tmp 42) (.tmp 44) rfl (some ⟨b, off, none⟩) 512 cap (10 + m) (10 + (m : Int)) rfl rfl (by rw [Int.natCast_add]; rfl) Tryz.underlying28 size_byte (by omega)) ?_
  clear hw1
  generalize (if cap = 10 + m then (some ⟨b, off, none⟩ : Option Addr) else (some ⟨b, off, none⟩ : Option Addr).map (·.add (10 + m))) = A2 at *
  rw [show (bvs p).drop (10 + m) = bvs (p.drop (10 + m)) from by simp [bvs]] at HRD
  refine wpQuiet_step (fun K hK => ?_)
  go_simp
  apply Exists.intro
  refine ⟨fun x => ?_, hK _ ?_⟩
  · exact (trim_any A2 (512 - (10 + m)) (cap - (10 + m)) (p.drop (10 + m)) (F x) (by omega) (by omega) (HRD.out.fr0 (HF.out x))).mono fun e w' ⟨h1, k, h2⟩ => ⟨h1, HFI.out _ (h2 ▸ (HF.out x).drewN k)⟩
  clear hK K
  have hne0 : ¬ rn (p.drop (10 + m)) = 0 := fun h => HY.out.2.2 (rn_zero.1 h)
  have hpos := lz_lt_rn (l := p.drop (10 + m)) (by omega)
  obtain ⟨b2, off2, hA2, _⟩ := HRD.out.2 (by
    rcases Nat.eq_zero_or_pos (512 - (10 + m)) with h | h
    · exfalso
      apply hne0
      have : p.drop (10 + m) = [] := List.eq_nil_of_length_eq_zero (by rw [List.length_drop, HP.out]; exact h)
      rw [this]; rfl
    · exact h)
  have HTV := Lib.hid (show trimA A2 (cap - (10 + m)) (p.drop (10 + m)) = .slice (some ⟨b2, off2 + lz (p.drop (10 + m)), none⟩) (rn (p.drop (10 + m)) - lz (p.drop (10 + m))) (cap - (10 + m) - lz (p.drop (10 + m))) by
    unfold trimA; rw [if_neg hne0, hA2])
  obtain ⟨tn, htn⟩ : ∃ k, rn (p.drop (10 + m)) - lz (p.drop (10 + m)) = k + 1 := ⟨rn (p.drop (10 + m)) - lz (p.drop (10 + m)) - 1, by omega⟩
  rw [HTV.out, htn]
  generalize cap - (10 + m) - lz (p.drop (10 + m)) = tc at *
  generalize off2 + lz (p.drop (10 + m)) = to at *
  clear hne0 hpos hA2 HTV htn
  have hdt : decide ((0 : Int) < (tn : Int) + 1) = true := by simp
  iterate 3 (refine wpQuiet_step (fun K hK => ?_); go_simp; refine hK _ ?_; clear hK K)
  refine wpQuiet_nil ?_
  rintro _ ⟨x, rfl⟩
  go_wp2
  go_ret2
  exact ⟨rfl, HF.out x⟩

set_option maxRecDepth 100000 in
set_option maxHeartbeats 2000000 in
theorem decode_ok (n b off cap : Nat) (p : List UInt8) (w : World) (hn : n ≤ 16383) (hp : p.length = 512) (hcap : 512 ≤ cap) (hr : Rd w (some ⟨b, off, none⟩) 512 (bvs p)) (hyp : longOf p ≤ 502 ∧ be8 (pageSum n (p.drop 8)) ++ p.drop 8 = p ∧ ∀ c ∈ p.drop (10 + longOf p), c = 0) :
    Calls Tryz.prog 94 #[.int .i64 (n : Int), .slice (some ⟨b, off, none⟩) 512 cap] w fun e w' =>
      (∃ v, e = .returned (.tuple #[v, .int .i64 0]) ∧ w'.ownsRow w.heap.size 5 1 v (longOf p) (bvs ((p.drop 10).take (longOf p)))) ∧ Fr0 w w' := by
  have HR := Lib.hid hr
  have HP := Lib.hid hp
  clear hr hp
  obtain ⟨c8, h8⟩ : ∃ c, p[8]? = some c := ⟨_, List.getElem?_eq_getElem (by rw [HP.out]; omega)⟩
  obtain ⟨c9, h9⟩ : ∃ c, p[9]? = some c := ⟨_, List.getElem?_eq_getElem (by rw [HP.out]; omega)⟩
  have hcell8 := rd_byte HR.out h8
  have hcell9 := rd_byte HR.out h9
  have HLG := Lib.hid (show longOf p = c8.toNat * 256 + c9.toNat by simp [longOf, List.getD, h8, h9])
  have hb8 : c8.toNat < 256 := c8.toNat_lt
  have hb9 : c9.toNat < 256 := c9.toNat_lt
  have HY := Lib.hid hyp
  clear h8 h9 hyp
  go_enter Tryz.func94, Tryz.ntmps94
  go_wp2_with fail
  go_quiet (fail)
  go_wp2_with fail
  rw [or_eq c8.toNat c9.toNat hb8 hb9, ← HLG.out]
  clear hcell8 hcell9 hb8 hb9 HLG
  generalize hm : longOf p = m at *
  have HM := Lib.hid hm
  clear hm
  have hd : decide ((502 : Int) < (m : Int)) = false := by have := HY.out.1; simp; omega
  obtain ⟨X, F, hne, hF, hFi, x0, hx0⟩ := family0 w (w.drewN nq) (Fr.refl.drewN _)
  have HF := Lib.hid hF
  have HFI := Lib.hid hFi
  refine wp_region_fam F (by kernel_rfl) (by kernel_rfl) x0 hx0 ?_
  clear hF hFi hx0
  have harr := fun W : World => run_arrayAt (P := Tryz.prog) W 158 5 512 Tryz.underlying158 (some ⟨b, off, none⟩) 512 cap (Nat.le_refl _)
  iterate 6 (refine wpQuiet_step (fun K hK => ?_); go_simp; refine hK _ ?_; clear hK K)
  refine wpQuiet_val (v := .agg (bvs p).toArray) rfl (fun x => exec_loadRd 158 (.tmp 33) rfl b off 512 (bvs p) (.array 512 5) rfl (HR.out.fr0 (HF.out x)) Tryz.underlying158 rfl size_sheet) ?_
  refine wpQuiet_step (fun K hK => ?_)
  go_simp
  apply Exists.intro
  refine ⟨fun x => ?_, hK _ ?_⟩
  · exact (sealed_any n p (F x) hn HP.out).mono fun e w' ⟨h1, h2⟩ => ⟨h1, HFI.out _ ((HF.out x).then0 h2)⟩
  clear hK K
  iterate 2 (refine wpQuiet_step (fun K hK => ?_); go_simp; refine hK _ ?_; clear hK K)
  refine wpQuiet_val (v := .agg (bvs p).toArray) rfl (fun x => exec_loadRd 158 (.tmp 37) rfl b off 512 (bvs p) (.array 512 5) rfl (HR.out.fr0 (HF.out x)) Tryz.underlying158 rfl size_sheet) ?_
  clear harr
  have heq := fun W : World => run_equalIn_bytes (P := Tryz.prog) W 9998 158 5 512 Tryz.underlying158 Tryz.underlying5 size_byte (be8 (pageSum n (p.drop 8)) ++ p.drop 8) p (by rw [List.length_append, be8_length, List.length_drop, HP.out]) HP.out
  have heg : Tryz.prog.eqGuardType Tryz.prog.depth 158 = false := by kernel_rfl
  generalize hsl : be8 (pageSum n (p.drop 8)) ++ p.drop 8 = sl at *
  have HSL := Lib.hid hsl
  clear hsl
  have hs : (sl == p) = true := by simpa using HY.out.2.1
  rw [hs] at heq
  refine wpQuiet_step (fun K hK => ?_)
  go_simp
  refine hK _ ?_
  clear hK K heq heg hs
  have hm5 : m ≤ 502 := HY.out.1
  have hw1 : IntKind.i64.wrap (10 + (m : Int)) = 10 + (m : Int) := IntWalk.i64_in _ (by omega)
  iterate 5 (refine wpQuiet_step (fun K hK => ?_); go_simp; refine hK _ ?_; clear hK K)
  have HRD := Lib.hid (HR.out.cut (k := 10 + m) (cap := cap) (by omega) hcap)
  refine wpQuiet_val (v := .slice (if cap = 10 + m then (some ⟨b, off, none⟩ : Option Addr) else (some ⟨b, off, none⟩ : Option Addr).map (·.add (10 + m))) (512 - (10 + m)) (cap - (10 + m))) rfl (fun x => exec_sliceFrom 28 5 (.tmp 42) (.tmp 44) rfl (some ⟨b, off, none⟩) 512 cap (10 + m) (10 + (m : Int)) rfl rfl (by rw [Int.natCast_add]; rfl) Tryz.underlying28 size_byte (by omega)) ?_
  clear hw1
  generalize (if cap = 10 + m then (some ⟨b, off, none⟩ : Option Addr) else (some ⟨b, off, none⟩ : Option Addr).map (·.add (10 + m))) = A2 at *
  rw [show (bvs p).drop (10 + m) = bvs (p.drop (10 + m)) from by simp [bvs]] at HRD
  refine wpQuiet_step (fun K hK => ?_)
  go_simp
  apply Exists.intro
  refine ⟨fun x => ?_, hK _ ?_⟩
  · exact (trim_any A2 (512 - (10 + m)) (cap - (10 + m)) (p.drop (10 + m)) (F x) (by omega) (by omega) (HRD.out.fr0 (HF.out x))).mono fun e w' ⟨h1, k, h2⟩ => ⟨h1, HFI.out _ (h2 ▸ (HF.out x).drewN k)⟩
  clear hK K
  rw [show trimA A2 (cap - (10 + m)) (p.drop (10 + m)) = .slice none 0 0 from by unfold trimA; rw [if_pos (rn_zero.2 HY.out.2.2)]]
  iterate 3 (refine wpQuiet_step (fun K hK => ?_); go_simp; refine hK _ ?_; clear hK K)
  refine wpQuiet_nil ?_
  rintro _ ⟨x, rfl⟩
  go_wp2_with fail
  have HRX := Lib.hid ((HR.out.sub 10 m (by omega)).fr0 (HF.out x))
  rw [show ((bvs p).drop 10).take m = bvs ((p.drop 10).take m) from by simp [bvs]] at HRX
  refine (clone_any (some ⟨b, off + 10, none⟩) m (cap - 10) (bvs ((p.drop 10).take m)) (F x) (by omega) HRX.out (bvs_one _) (by simp)).mono ?_
  rintro e w7 ⟨v, rfl, ho, hf⟩
  have HO := Lib.hid (own_base ho (HF.out x).size)
  have HT := Lib.hid ((HF.out x).then0 hf)
  clear ho hf
  go_wp2
  go_ret2
  exact ⟨⟨v, rfl, by rw [HM.out]; exact HO.out⟩, HT.out⟩
end Go.Proofs.YtchhiheoejchhaaGreatDoor
