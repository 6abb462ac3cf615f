/- Contracts of page.Decode and of the reference's Decode, by what the document says. -/
import Derived.Test.YtnkodmkoomifaaaDoorPlain2
import Derived.Test.YtnkodmkoomifaaaDoorStr
namespace Go.Proofs.YtnkodmkoomifaaaDoor
open Go.RowKit

/-- The payload of a page. -/
def outOf (p : List UInt8) : List UInt8 := (p.drop 10).take (longOf p)
theorem outOf_length (p : List UInt8) (h : p.length = 512) (hl : longOf p ≤ 502) : (outOf p).length = longOf p := by
  simp [outOf]; omega

theorem decode_yes (n : Nat) (A : Option Addr) (cap : Nat) (p : List UInt8) (w : World) (hn : n ≤ 16383) (hcap : 512 ≤ cap) (hr : Rd w A 512 (bvs p)) (hd : DecOk n p) :
    Calls Tryd.prog 9 #[.int .i64 (n : Int), .slice A 512 cap] w fun e w' =>
      (∃ v, e = .returned (.tuple #[v, .int .i64 0]) ∧ w'.ownsRow w.heap.size 5 1 v (longOf p) (bvs (outOf p))) ∧ Fr0 w w' := by
  have hp : p.length = 512 := by rw [← bvs_length, hr.1]
  obtain ⟨b, off, rfl, _⟩ := hr.2 (by omega)
  exact decode_ok n b off cap p w hn hp hcap hr hd
theorem decode_no (n : Nat) (A : Option Addr) (cap : Nat) (p : List UInt8) (w : World) (hn : n ≤ 16383) (hcap : 512 ≤ cap) (hr : Rd w A 512 (bvs p)) (hd : ¬ DecOk n p) :
    Calls Tryd.prog 9 #[.int .i64 (n : Int), .slice A 512 cap] w fun e w' =>
      e = .returned (.tuple #[.slice none 0 0, .int .i64 30]) ∧ Fr0 w w' := by
  have hp : p.length = 512 := by rw [← bvs_length, hr.1]
  obtain ⟨b, off, rfl, _⟩ := hr.2 (by omega)
  by_cases h1 : longOf p ≤ 502
  · by_cases h2 : be8 (pageSum n (p.drop 8)) ++ p.drop 8 = p
    · exact decode_tail n b off cap p w hn hp hcap hr ⟨h1, h2, fun h3 => hd ⟨h1, h2, h3⟩⟩
    · exact decode_sum n b off cap p w hn hp hcap hr ⟨h1, h2⟩
  · exact decode_long n b off cap p w hn hp hcap hr (by omega)

theorem refDecode_arg (n : Int) (A : Option Addr) (len cap : Nat) (w : World) (h : n < 0 ∨ 16383 < n ∨ len ≠ 512) :
    Calls Tryd.prog 10 #[.int .i64 n, .slice A len cap] w fun e w' =>
      e = .returned (.tuple #[.slice none 0 0, .int .i64 1]) ∧ w = w' := by
  by_cases h1 : n < 0
  · clear h
    go_enter Tryd.func10, Tryd.ntmps10
    go_wp2
    go_ret2
    exact ⟨rfl, rfl⟩
  · by_cases h2 : 16383 < n
    · clear h
      go_enter Tryd.func10, Tryd.ntmps10
      go_wp2
      go_ret2
      exact ⟨rfl, rfl⟩
    · have h3 : ((len : Int) != 512) = true := by rw [bne_iff_ne]; omega
      clear h
      go_enter Tryd.func10, Tryd.ntmps10
      go_wp2
      go_ret2
      exact ⟨rfl, rfl⟩

set_option maxRecDepth 100000 in
set_option maxHeartbeats 2000000 in
theorem refDecode_long (n : Nat) (A : Option Addr) (cap : Nat) (p : List UInt8) (w : World) (hn : n ≤ 16383) (_hcap : 512 ≤ cap) (hr : Rd w A 512 (bvs p)) (hyp : 502 < longOf p) :
    Calls Tryd.prog 10 #[.int .i64 (n : Int), .slice A 512 cap] w fun e w' =>
      e = .returned (.tuple #[.slice none 0 0, .int .i64 30]) ∧ Fr0 w w' := by
  obtain ⟨b, off, rfl, _⟩ := hr.2 (by omega)
  have HP := Lib.hid (show p.length = 512 by rw [← bvs_length, hr.1])
  have HR := Lib.hid hr
  clear hr
  obtain ⟨c8, h8⟩ : ∃ c, p[8]? = some c := ⟨_, List.getElem?_eq_getElem (by rw [HP.out]; omega)⟩
  obtain ⟨c9, h9⟩ : ∃ c, p[9]? = some c := ⟨_, List.getElem?_eq_getElem (by rw [HP.out]; omega)⟩
  have hcell8 := rd_byte HR.out h8
  have hcell9 := rd_byte HR.out h9
  have HLG := Lib.hid (show longOf p = c8.toNat * 256 + c9.toNat by simp [longOf, List.getD, h8, h9])
  have hb8 : c8.toNat < 256 := c8.toNat_lt
  have hb9 : c9.toNat < 256 := c9.toNat_lt
  have HY := Lib.hid hyp
  clear h8 h9 hyp
  have hw1 : IntKind.i64.wrap (256 * (c8.toNat : Int)) = 256 * (c8.toNat : Int) := IntWalk.i64_in _ (by omega)
  have hw2 : IntKind.i64.wrap (256 * (c8.toNat : Int) + (c9.toNat : Int)) = 256 * (c8.toNat : Int) + (c9.toNat : Int) := IntWalk.i64_in _ (by omega)
  have HE := Lib.hid (show 256 * (c8.toNat : Int) + (c9.toNat : Int) = ((longOf p : Nat) : Int) by rw [HLG.out]; omega)
  go_enter Tryd.func10, Tryd.ntmps10
  go_wp2_with fail
  go_quiet (fail)
  rw [HE.out]
  clear hcell8 hcell9 hb8 hb9 HLG HE hw1 hw2
  have HLP := Lib.hid (outOf_length p HP.out)
  generalize hm : longOf p = m at *
  have HM := Lib.hid hm
  clear hm
  have hlong := HY.out
  go_wp2
  go_ret2
  exact ⟨rfl, Fr.refl.drewN _⟩

set_option maxRecDepth 100000 in
set_option maxHeartbeats 2000000 in
theorem refDecode_other (n : Nat) (A : Option Addr) (cap : Nat) (p : List UInt8) (w : World) (hn : n ≤ 16383) (hcap : 512 ≤ cap) (hr : Rd w A 512 (bvs p)) (hyp : longOf p ≤ 502 ∧ ¬ DecOk n p) :
    Calls Tryd.prog 10 #[.int .i64 (n : Int), .slice A 512 cap] w fun e w' =>
      e = .returned (.tuple #[.slice none 0 0, .int .i64 30]) ∧ Fr0 w w' := by
  obtain ⟨b, off, rfl, _⟩ := hr.2 (by omega)
  have HP := Lib.hid (show p.length = 512 by rw [← bvs_length, hr.1])
  have HR := Lib.hid hr
  clear hr
  obtain ⟨c8, h8⟩ : ∃ c, p[8]? = some c := ⟨_, List.getElem?_eq_getElem (by rw [HP.out]; omega)⟩
  obtain ⟨c9, h9⟩ : ∃ c, p[9]? = some c := ⟨_, List.getElem?_eq_getElem (by rw [HP.out]; omega)⟩
  have hcell8 := rd_byte HR.out h8
  have hcell9 := rd_byte HR.out h9
  have HLG := Lib.hid (show longOf p = c8.toNat * 256 + c9.toNat by simp [longOf, List.getD, h8, h9])
  have hb8 : c8.toNat < 256 := c8.toNat_lt
  have hb9 : c9.toNat < 256 := c9.toNat_lt
  have HY := Lib.hid hyp
  clear h8 h9 hyp
  have hw1 : IntKind.i64.wrap (256 * (c8.toNat : Int)) = 256 * (c8.toNat : Int) := IntWalk.i64_in _ (by omega)
  have hw2 : IntKind.i64.wrap (256 * (c8.toNat : Int) + (c9.toNat : Int)) = 256 * (c8.toNat : Int) + (c9.toNat : Int) := IntWalk.i64_in _ (by omega)
  have HE := Lib.hid (show 256 * (c8.toNat : Int) + (c9.toNat : Int) = ((longOf p : Nat) : Int) by rw [HLG.out]; omega)
  go_enter Tryd.func10, Tryd.ntmps10
  go_wp2_with fail
  go_quiet (fail)
  rw [HE.out]
  clear hcell8 hcell9 hb8 hb9 HLG HE hw1 hw2
  have HLP := Lib.hid (outOf_length p HP.out)
  generalize hm : longOf p = m at *
  have HM := Lib.hid hm
  clear hm
  have hm5 : m ≤ 502 := HY.out.1
  have HRX := Lib.hid ((HR.out.sub 10 m (by omega)).drewN nq)
  rw [show ((bvs p).drop 10).take m = bvs (outOf p) from by rw [show outOf p = (p.drop 10).take m from by unfold outOf; rw [HM.out]]; simp [bvs]] at HRX
  have HMM := Lib.hid (show 10 + m - 10 = m by omega)
  replace HRX : Hid (Rd (w.drewN nq) (some ⟨b, off + 10, none⟩) (10 + m - 10) (bvs (outOf p))) := Lib.hid (by rw [HMM.out]; exact HRX.out)
  go_wp2_with (first
    | (at_builtin
       go_must (
                refine Does.list rfl (does_append (.tmp 33) (.tmp 37) 22 rfl w.heap.size 5 (.int .u8 0) 1 Tryd.underlying22 info_byte rfl _ 0 [] rfl (World.ownsRow_nil _ _ _ _) (some ⟨b, off + 10, none⟩) (10 + m - 10) (cap - 10) (bvs (outOf p)) rfl HRX.out (bvs_one _) (by unfold maxLen; omega) (by omega) (Nat.le_refl _)) ?_
                rintro vo w1 ⟨ho, hg, _⟩
                have HF := Lib.hid (Fr.app (S := Nowhere) (Fr.refl.drewN nq) (World.ownsRow_nil _ w.heap.size 5 1) (Nat.le_refl _) hg)
                rw [Nat.zero_add, List.nil_append, HMM.out] at ho
                have HO := Lib.hid ho
                clear ho hg))
    | fail)
  obtain ⟨Ao, co, rfl, _, _, hrd, hat⟩ := own_form HO.out
  have HRO := Lib.hid hrd
  clear hrd hat
  refine (refEncode_ok n Ao m co (outOf p) w1 hn hm5 HRO.out).mono ?_
  rintro e w2 ⟨vw, rfl, ho, hf⟩
  obtain ⟨Aw, cw, rfl, _, _, hrd, _⟩ := own_form ho
  have hc1 := run_str (P := Tryd.prog) w2 22 9 5 Tryd.underlying22 Tryd.underlying5 Tryd.underlying9 Aw 512 cw (pageOf n (outOf p)) hrd
  have hc2 := run_str (P := Tryd.prog) w2 22 9 5 Tryd.underlying22 Tryd.underlying5 Tryd.underlying9 (some ⟨b, off, none⟩) 512 cap p ((HR.out.fr0 HF.out).fr0 hf)
  unfold str at hc1 hc2
  have HO2 := Lib.hid (own_fr HO.out hf (fun _ _ h => h))
  replace HF := Lib.hid (HF.out.then0 hf)
  clear ho hf hrd HO
  have HNE := Lib.hid (show pageOf n (outOf p) ≠ p from fun h => HY.out.2 ((decOk_iff n p HP.out).2 ⟨by rw [HM.out]; exact hm5, h⟩))
  generalize pageOf n (outOf p) = pg at *
  have hne := HNE.out
  have hne' : (pg == p) = false := by simpa using hne
  go_wp2
  go_ret2
  exact ⟨rfl, HF.out⟩

set_option maxRecDepth 100000 in
set_option maxHeartbeats 2000000 in
theorem refDecode_yes (n : Nat) (A : Option Addr) (cap : Nat) (p : List UInt8) (w : World) (hn : n ≤ 16383) (hcap : 512 ≤ cap) (hr : Rd w A 512 (bvs p)) (hyp : DecOk n p) :
    Calls Tryd.prog 10 #[.int .i64 (n : Int), .slice A 512 cap] w fun e w' =>
      (∃ v, e = .returned (.tuple #[v, .int .i64 0]) ∧ w'.ownsRow w.heap.size 5 1 v (longOf p) (bvs (outOf p))) ∧ Fr0 w w' := by
  obtain ⟨b, off, rfl, _⟩ := hr.2 (by omega)
  have HP := Lib.hid (show p.length = 512 by rw [← bvs_length, hr.1])
  have HR := Lib.hid hr
  clear hr
  obtain ⟨c8, h8⟩ : ∃ c, p[8]? = some c := ⟨_, List.getElem?_eq_getElem (by rw [HP.out]; omega)⟩
  obtain ⟨c9, h9⟩ : ∃ c, p[9]? = some c := ⟨_, List.getElem?_eq_getElem (by rw [HP.out]; omega)⟩
  have hcell8 := rd_byte HR.out h8
  have hcell9 := rd_byte HR.out h9
  have HLG := Lib.hid (show longOf p = c8.toNat * 256 + c9.toNat by simp [longOf, List.getD, h8, h9])
  have hb8 : c8.toNat < 256 := c8.toNat_lt
  have hb9 : c9.toNat < 256 := c9.toNat_lt
  have HY := Lib.hid hyp
  clear h8 h9 hyp
  have hw1 : IntKind.i64.wrap (256 * (c8.toNat : Int)) = 256 * (c8.toNat : Int) := IntWalk.i64_in _ (by omega)
  have hw2 : IntKind.i64.wrap (256 * (c8.toNat : Int) + (c9.toNat : Int)) = 256 * (c8.toNat : Int) + (c9.toNat : Int) := IntWalk.i64_in _ (by omega)
  have HE := Lib.hid (show 256 * (c8.toNat : Int) + (c9.toNat : Int) = ((longOf p : Nat) : Int) by rw [HLG.out]; omega)
  go_enter Tryd.func10, Tryd.ntmps10
  go_wp2_with fail
  go_quiet (fail)
  rw [HE.out]
  clear hcell8 hcell9 hb8 hb9 HLG HE hw1 hw2
  have HLP := Lib.hid (outOf_length p HP.out)
  generalize hm : longOf p = m at *
  have HM := Lib.hid hm
  clear hm
  have hm5 : m ≤ 502 := (by have := HY.out.1; rw [HM.out] at this; exact this)
  have HRX := Lib.hid ((HR.out.sub 10 m (by omega)).drewN nq)
  rw [show ((bvs p).drop 10).take m = bvs (outOf p) from by rw [show outOf p = (p.drop 10).take m from by unfold outOf; rw [HM.out]]; simp [bvs]] at HRX
  have HMM := Lib.hid (show 10 + m - 10 = m by omega)
  replace HRX : Hid (Rd (w.drewN nq) (some ⟨b, off + 10, none⟩) (10 + m - 10) (bvs (outOf p))) := Lib.hid (by rw [HMM.out]; exact HRX.out)
  go_wp2_with (first
    | (at_builtin
       go_must (
                refine Does.list rfl (does_append (.tmp 33) (.tmp 37) 22 rfl w.heap.size 5 (.int .u8 0) 1 Tryd.underlying22 info_byte rfl _ 0 [] rfl (World.ownsRow_nil _ _ _ _) (some ⟨b, off + 10, none⟩) (10 + m - 10) (cap - 10) (bvs (outOf p)) rfl HRX.out (bvs_one _) (by unfold maxLen; omega) (by omega) (Nat.le_refl _)) ?_
                rintro vo w1 ⟨ho, hg, _⟩
                have HF := Lib.hid (Fr.app (S := Nowhere) (Fr.refl.drewN nq) (World.ownsRow_nil _ w.heap.size 5 1) (Nat.le_refl _) hg)
                rw [Nat.zero_add, List.nil_append, HMM.out] at ho
                have HO := Lib.hid ho
                clear ho hg))
    | fail)
  obtain ⟨Ao, co, rfl, _, _, hrd, hat⟩ := own_form HO.out
  have HRO := Lib.hid hrd
  clear hrd hat
  refine (refEncode_ok n Ao m co (outOf p) w1 hn hm5 HRO.out).mono ?_
  rintro e w2 ⟨vw, rfl, ho, hf⟩
  obtain ⟨Aw, cw, rfl, _, _, hrd, _⟩ := own_form ho
  have hc1 := run_str (P := Tryd.prog) w2 22 9 5 Tryd.underlying22 Tryd.underlying5 Tryd.underlying9 Aw 512 cw (pageOf n (outOf p)) hrd
  have hc2 := run_str (P := Tryd.prog) w2 22 9 5 Tryd.underlying22 Tryd.underlying5 Tryd.underlying9 (some ⟨b, off, none⟩) 512 cap p ((HR.out.fr0 HF.out).fr0 hf)
  unfold str at hc1 hc2
  have HO2 := Lib.hid (own_fr HO.out hf (fun _ _ h => h))
  replace HF := Lib.hid (HF.out.then0 hf)
  clear ho hf hrd HO
  have HEQ := Lib.hid (show pageOf n (outOf p) = p from ((decOk_iff n p HP.out).1 HY.out).2)
  rw [HEQ.out] at hc1
  go_wp2
  go_ret2
  exact ⟨⟨_, rfl, by rw [HM.out]; exact HO2.out⟩, HF.out⟩

theorem refDecode_no (n : Nat) (A : Option Addr) (cap : Nat) (p : List UInt8) (w : World) (hn : n ≤ 16383) (hcap : 512 ≤ cap) (hr : Rd w A 512 (bvs p)) (hd : ¬ DecOk n p) :
    Calls Tryd.prog 10 #[.int .i64 (n : Int), .slice A 512 cap] w fun e w' =>
      e = .returned (.tuple #[.slice none 0 0, .int .i64 30]) ∧ Fr0 w w' := by
  by_cases h1 : longOf p ≤ 502
  · exact refDecode_other n A cap p w hn hcap hr ⟨h1, hd⟩
  · exact refDecode_long n A cap p w hn hcap hr (by omega)
end Go.Proofs.YtnkodmkoomifaaaDoor
