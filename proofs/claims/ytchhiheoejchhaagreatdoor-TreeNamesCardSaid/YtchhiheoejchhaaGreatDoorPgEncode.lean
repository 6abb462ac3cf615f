/- Contracts of bytes.Clone and page.Encode. -/
import Derived.Test.YtchhiheoejchhaaGreatDoorPgSealed
namespace Go.Proofs.YtchhiheoejchhaaGreatDoor
open Go.RowKit

set_option maxHeartbeats 400000 in
theorem clone_any (A : Option Addr) (len cap : Nat) (xs : List Value) (w : World) (hm : len ≤ 140737488351232) (hr : Rd w A len xs) (h1 : ∀ u ∈ xs, u.oneCell' = true) (hN : A = none → cap = 0) :
    Calls Tryz.prog 102 #[.slice A len cap] w fun e w' => ∃ v, e = .returned v ∧ w'.ownsRow w.heap.size 5 1 v len xs ∧ Fr0 w w' := by
  have HR := Lib.hid hr
  have HN := Lib.hid hN
  have H1 := Lib.hid h1
  clear hr hN h1
  have hnil := fun (W : World) (a : Option Addr) (n c : Nat) => Lib.run_eql_slice_nil (P := Tryz.prog) W 28 5 a n c 0 0 Tryz.underlying28
  cases A with
  | none =>
    obtain rfl : cap = 0 := HN.out rfl
    have h0 : len = 0 := by
      rcases Nat.eq_zero_or_pos len with h | h
      · exact h
      · obtain ⟨_, _, e, _⟩ := HR.out.2 h; cases e
    subst h0
    go_enter Tryz.func102, Tryz.ntmps102
    go_wp2
    go_ret
    have hx : xs = [] := List.eq_nil_of_length_eq_zero HR.out.1
    subst hx
    exact ⟨_, rfl, World.ownsRow_nil w _ _ _, Fr.refl⟩
  | some a =>
    go_enter Tryz.func102, Tryz.ntmps102
    go_wp2_with (first
      | (at_builtin
         refine Does.list rfl (does_append (.tmp 5) (.tmp 6) 28 rfl w.heap.size 5 (.int .u8 0) 1 Tryz.underlying28 info_byte rfl _ 0 [] rfl (own_new0 w 5) (some a) len cap xs rfl (HR.out.fr0 (Fr.refl.alloc _)) H1.out (by unfold maxLen; omega) (by omega) (by simp)) ?_
         rintro v w1 ⟨ho, hg, _⟩
         have HO := Lib.hid ho
         have HF := Lib.hid (Fr.app (S := Nowhere) (Fr.refl.alloc _) (own_new0 w 5) (Nat.le_refl _) hg)
         clear ho hg)
      | fail)
    go_ret
    exact ⟨v, rfl, by simpa using HO.out, HF.out⟩

def blank8 (t : List UInt8) : List UInt8 := List.replicate 8 0 ++ t
theorem blank8_length (t : List UInt8) : (blank8 t).length = t.length + 8 := by simp [blank8]
theorem blank8_drop (t : List UInt8) : (blank8 t).drop 8 = t := by simp [blank8]
theorem blank8_page (n : Nat) (l : List UInt8) : be8 (pageSum n ((blank8 (tailOf l)).drop 8)) ++ (blank8 (tailOf l)).drop 8 = pageOf n l := by
  rw [blank8_drop]; rfl
theorem zeros_split (a b c : Nat) (h : a + (b + 2) + c = 512) : zeros 512 = zeros a ++ (.int .u8 0 :: .int .u8 0 :: (zeros b ++ zeros c)) := by
  unfold zeros
  rw [List.replicate_append_replicate, ← List.replicate_succ, ← List.replicate_succ, List.replicate_append_replicate]
  congr 1
  omega
theorem head_put (len : Nat) (l : List UInt8) (hl : l.length = len) (h : len ≤ 502) :
    put (((zeros 512).set 8 (.int .u8 ((len : Int) / 256))).set 9 (.int .u8 ((len : Int) % 256))) 10 (bvs l) = bvs (blank8 (tailOf l)) := by
  subst hl
  have e1 : bv (UInt8.ofNat (l.length / 256)) = .int .u8 ((l.length : Int) / 256) := by
    unfold bv; rw [toNat_ofNat8]; congr 1; omega
  have e2 : bv (UInt8.ofNat l.length) = .int .u8 ((l.length : Int) % 256) := by
    unfold bv; rw [toNat_ofNat8]
  have e0 : ∀ k, bvs (List.replicate k 0) = zeros k := fun k => by simp [bvs, bv, zeros]
  rw [zeros_split 8 l.length (502 - l.length) (by omega)]
  simp only [List.set_append_right _ _ (show (zeros 8).length ≤ 8 by rw [zeros_length]; omega), List.set_append_right _ _ (show (zeros 8).length ≤ 9 by rw [zeros_length]; omega), zeros_length, Nat.reduceSub, List.set_cons_zero, List.set_cons_succ]
  rw [← e1, ← e2]
  unfold tailOf
  generalize UInt8.ofNat (l.length / 256) = c1
  generalize UInt8.ofNat l.length = c2
  have ht : List.take 10 (zeros 8 ++ bv c1 :: bv c2 :: (zeros l.length ++ zeros (502 - l.length))) = zeros 8 ++ [bv c1, bv c2] := by
    rw [show (zeros 8 ++ bv c1 :: bv c2 :: (zeros l.length ++ zeros (502 - l.length))) = (zeros 8 ++ [bv c1, bv c2]) ++ (zeros l.length ++ zeros (502 - l.length)) from by simp]
    exact List.take_left' (by simp [zeros_length])
  have hd : List.drop (10 + l.length) (zeros 8 ++ bv c1 :: bv c2 :: (zeros l.length ++ zeros (502 - l.length))) = zeros (502 - l.length) := by
    rw [show (zeros 8 ++ bv c1 :: bv c2 :: (zeros l.length ++ zeros (502 - l.length))) = (zeros 8 ++ [bv c1, bv c2] ++ zeros l.length) ++ zeros (502 - l.length) from by simp]
    exact List.drop_left' (by simp [zeros_length]; omega)
  unfold put
  rw [bvs_length, ht, hd]
  unfold blank8
  rw [bvs_append, e0]
  show _ = zeros 8 ++ bvs (c1 :: c2 :: (l ++ List.replicate (502 - l.length) 0))
  rw [show c1 :: c2 :: (l ++ List.replicate (502 - l.length) 0) = [c1, c2] ++ (l ++ List.replicate (502 - l.length) 0) from rfl, bvs_append, bvs_append, e0]
  simp [bvs]

set_option maxHeartbeats 1000000 in
theorem encode_ok (n : Nat) (A : Option Addr) (len cap : Nat) (l : List UInt8) (w : World) (hn : n ≤ 16383) (hlen : len ≤ 502) (hr : Rd w A len (bvs l)) :
    Calls Tryz.prog 88 #[.int .i64 (n : Int), .slice A len cap] w fun e w' =>
      ∃ v, e = .returned (.tuple #[v, .int .i64 0]) ∧ w'.ownsRow w.heap.size 5 1 v 512 (bvs (pageOf n l)) ∧ Fr0 w w' := by
  have HR := Lib.hid hr
  have HL := Lib.hid (show l.length = len by rw [← bvs_length, hr.1])
  have HS := Lib.hid (show (bvs (blank8 (tailOf l))).length = 512 by rw [bvs_length, blank8_length, tailOf_length l (by rw [HL.out]; exact hlen)])
  clear hr
  go_enter Tryz.func88, Tryz.ntmps88
  go_wp2_with (first
    | (refine Does.list rfl (does_alloc 158 rfl _ (zeros 512) info_sheet rfl) ?_
       rintro _ w1 ⟨g, rfl, hg, hg', hb, hf⟩
       have HB := Lib.hid hb; have HT := Lib.hid hf; clear hb hf)
    | (refine Does.list rfl (does_store1 5 (.tmp 25) (.tmp 21) rfl g 8 158 (zeros 512) (.int .u8 ((len : Int) / 256)) rfl rfl rfl HB.out size_byte (by rw [zeros_length]; omega) rfl) ?_
       rintro _ w2 ⟨rfl, hb, hf⟩
       have hw2 : w1.heap.size ≤ w2.heap.size := hf.size
       replace HB := Lib.hid hb; replace HT := Lib.hid (HT.out.step hf (fun k hk e => by omega)); clear hb hf)
    | (refine Does.list rfl (does_store1 5 (.tmp 26) (.tmp 24) rfl g 9 158 _ (.int .u8 ((len : Int) % 256)) rfl rfl rfl HB.out size_byte (by rw [List.length_set, zeros_length]; omega) rfl) ?_
       rintro _ w3 ⟨rfl, hb, hf⟩
       have hw3 : w2.heap.size ≤ w3.heap.size := hf.size
       replace HB := Lib.hid hb; replace HT := Lib.hid (HT.out.step hf (fun k hk e => by omega)); clear hb hf)
    | (refine Does.list rfl (does_copy (.tmp 27) (.tmp 28) 28 28 rfl 5 Tryz.underlying28 size_byte g 10 502 502 A len cap rfl rfl 158 _ (bvs l) HB.out
         (HR.out.fr0 HT.out) (by omega) (by rw [List.length_set, List.length_set, zeros_length]; omega) (bvs_one _)) ?_
       rintro _ w4 ⟨rfl, hb, hf⟩
       have hw4 : w3.heap.size ≤ w4.heap.size := hf.size
       rw [head_put len l (HL.out) hlen] at hb
       replace HB := Lib.hid hb; replace HT := Lib.hid (HT.out.step hf (fun k hk e => by omega)); clear hb hf)
    | (refine Does.list rfl (does_load 158 (.tmp 6) rfl g 0 512 158 (bvs (blank8 (tailOf l))) (.array 512 5) rfl HB.out Tryz.underlying158 rfl size_sheet (by rw [HS.out]; omega)) ?_
       rintro _ _ ⟨rfl, rfl⟩
       rw [show List.take 512 (List.drop 0 (bvs (blank8 (tailOf l)))) = bvs (blank8 (tailOf l)) from by rw [List.drop_zero, List.take_of_length_le (by rw [HS.out]; omega)]])
    | fail)
  refine (sealed_any n (blank8 (tailOf l)) _ hn (by rw [← bvs_length, HS.out])).mono ?_
  rintro e w5 ⟨rfl, hf⟩
  rw [blank8_page n l]
  have hw5 : w4.heap.size ≤ w5.heap.size := hf.size
  replace HB := Lib.hid (HB.out.fr0 hf); replace HT := Lib.hid (HT.out.then0 hf); clear hf
  have HP := Lib.hid (show (bvs (pageOf n l)).length = 512 by rw [bvs_length, pageOf_length n l (by rw [HL.out]; exact hlen)])
  generalize hp : pageOf n l = pg at *
  have HPG := Lib.hid hp
  clear hp
  go_wp2_with (first
    | (refine Does.list rfl (does_store 158 (.tmp 6) (.tmp 32) rfl g 0 158 (bvs (blank8 (tailOf l))) (bvs pg) rfl rfl HB.out (by rw [HP.out]; exact size_sheet) (by rw [HP.out, HS.out]; omega) (bvs_one _)) ?_
       rintro _ w6 ⟨rfl, hb, hf⟩
       rw [put_all _ _ (by rw [HP.out, HS.out])] at hb
       have hw6 : w5.heap.size ≤ w6.heap.size := hf.size
       replace HB := Lib.hid hb; replace HT := Lib.hid (HT.out.step hf (fun k hk e => by omega)); clear hb hf)
    | fail)
  refine (clone_any (some ⟨g, 0, none⟩) 512 512 (bvs pg) _ (by omega) (rd_blk HB.out 0 512 _ (by rw [HP.out]; omega) (by rw [List.drop_zero, List.take_of_length_le (by rw [HP.out]; omega)])) (bvs_one _) (by simp)).mono ?_
  rintro e w7 ⟨v, rfl, ho, hf⟩
  have HO := Lib.hid (own_base ho HT.out.size); replace HT := Lib.hid (HT.out.then0 hf); clear ho hf
  go_wp2
  go_ret2
  exact ⟨v, rfl, by rw [HPG.out]; exact HO.out, HT.out⟩

theorem encode_no (n : Int) (A : Option Addr) (len cap : Nat) (w : World) (h : n < 0 ∨ 16383 < n ∨ 502 < len) :
    Calls Tryz.prog 88 #[.int .i64 n, .slice A len cap] w fun e w' =>
      e = .returned (.tuple #[.slice none 0 0, .int .i64 1]) ∧ w = w' := by
  by_cases h1 : n < 0
  · clear h
    go_enter Tryz.func88, Tryz.ntmps88
    go_wp2
    go_ret2
    exact ⟨rfl, rfl⟩
  · by_cases h2 : 16383 < n
    · clear h
      go_enter Tryz.func88, Tryz.ntmps88
      go_wp2
      go_ret2
      exact ⟨rfl, rfl⟩
    · have h3 : 502 < len := by omega
      clear h
      go_enter Tryz.func88, Tryz.ntmps88
      go_wp2
      go_ret2
      exact ⟨rfl, rfl⟩
end Go.Proofs.YtchhiheoejchhaaGreatDoor
