/- Lemmas that the last text rests on. Condition: each says its own. -/
import Derived.Test.YtjaocmocdhckaaaGreatDoorZDl
set_option maxHeartbeats 16000000
set_option maxRecDepth 100000
namespace Go.Proofs.YtjaocmocdhckaaaGreatDoor
open Go.RowKit
open Tryz
structure Ar where
 flow : List UInt8
 order : Int
 rests : Int
 at_ : List UInt8
 stops : Bool
def Ar.cells (a : Ar) : List Value := [str a.flow, .int .i64 a.order, .int .i64 a.rests, str a.at_, .bool a.stops]
theorem Ar.len (a : Ar) : a.cells.length = 5 := rfl
theorem Ar.cells_one (a : Ar) : ∀ u ∈ a.cells, u.oneCell' = true := BL rfl
theorem Tk.cells_one (t : Tk) : ∀ u ∈ t.cells, u.oneCell' = true := BL rfl
theorem GB : (prog.info? 43).map (fun i => (i.zero, i.size, i.bytes)) = some (some (.agg #[.int .i64 0, str [], str [], .int .i64 0, .int .i64 0, str [], .int .i64 0, .int .u8 0, .int .i64 0]), 9, 96) := by kernel_rfl
theorem FB : (prog.info? 126).map (fun i => (i.zero, i.size, i.bytes)) = some (some (.agg #[str [], .int .i64 0, .int .i64 0, str [], .bool false]), 5, 56) := by kernel_rfl
theorem B6 : (prog.info? 126).map (·.size) = some 5 := by kernel_rfl
theorem FY : (prog.info? 126).map (·.zero) = some (some (.agg #[str [], .int .i64 0, .int .i64 0, str [], .bool false])) := by kernel_rfl
theorem ZN (A : Option Addr) (c : Nat) (l : List Ar) (w : World) (hl : l.length ≤ 1048576) (hR : Rd w A (l.length * 5) (AK Ar.cells l)) :
 Calls prog 116 #[.slice A l.length c] w fun e w' => ∃ A' c', e = .returned (.slice A' l.length c') ∧ w'.ownsRow w.heap.size 126 5 (.slice A' l.length c') l.length (AK Ar.cells l) ∧ Fr0 w w' := by
 refine C2 func116 ntmps116 rfl fun M => AD (AB (yb rfl (AC (AA (AD (AD (AB (yb rfl (ya rfl (L0 rfl rfl underlying122) (AC (AA (AN rfl (fun h4 => ?_) (fun h4 => ?_)))))))))))))
 ·refine srg (yb rfl (nq (AI (AE (gr1 rfl ?_)))))
  obtain rfl := NZ hR BR h4
  exact ⟨none, 0, rfl, World.ownsRow_nil _ _ _ _, M.fr⟩
 ·refine AL (AA (srg (CC (some 5) (AF rfl) rfl rfl (fun ρ hρ => IC 122 126 5 rfl underlying122 B6) ?_)))
  rintro _ w1 ⟨g5, rfl, hg5, _, _, hfw1, ho5⟩
  have M := M.pushOwn hfw1 (Nat.le_refl _) (ho5 _ (Nat.le_refl _))
  exact yb rfl (ED (len' := l.length) (xs' := AK Ar.cells l) M 0 (AF rfl) rfl rfl rfl rfl rfl rfl (hR.fr0 M.fr) underlying122 FB rfl BR (EG Ar.cells_one) (Nat.le_refl _) (Nat.le_refl _) (by first | omega | (simp <;> omega)) (by unfold maxLen; first | omega | (simp only [List.length_append, List.length_cons, List.length_nil]; omega)) (by simp) (by first | exact (BY _ _ _).symm | simp [AK]) fun A7 c7 w2 M => yb rfl (nq (AI (gr1 rfl ⟨_, _, rfl, M.own 0 rfl, M.fr⟩))))
theorem nD (A : Option Addr) (c : Nat) (l : List Tk) (w : World) (hl : l.length ≤ 1048576) (hR : Rd w A (l.length * 9) (AK Tk.cells l)) :
 Calls prog 25 #[.slice A l.length c] w fun e w' => ∃ A' c', e = .returned (.slice A' l.length c') ∧ w'.ownsRow w.heap.size 43 9 (.slice A' l.length c') l.length (AK Tk.cells l) ∧ Fr0 w w' := by
 refine C2 func25 ntmps25 rfl fun M => AD (AB (yb rfl (AC (AA (AD (AD (AB (yb rfl (ya rfl (L0 rfl rfl underlying27) (AC (AA (AN rfl (fun h4 => ?_) (fun h4 => ?_)))))))))))))
 ·refine srg (yb rfl (nq (AI (AE (gr1 rfl ?_)))))
  obtain rfl := NZ hR BR h4
  exact ⟨none, 0, rfl, World.ownsRow_nil _ _ _ _, M.fr⟩
 ·refine AL (AA (srg (CC (some 5) (AF rfl) rfl rfl (fun ρ hρ => IC 27 43 9 rfl underlying27 BB) ?_)))
  rintro _ w1 ⟨g5, rfl, hg5, _, _, hfw1, ho5⟩
  have M := M.pushOwn hfw1 (Nat.le_refl _) (ho5 _ (Nat.le_refl _))
  exact yb rfl (ED (len' := l.length) (xs' := AK Tk.cells l) M 0 (AF rfl) rfl rfl rfl rfl rfl rfl (hR.fr0 M.fr) underlying27 GB rfl BR (EG Tk.cells_one) (Nat.le_refl _) (Nat.le_refl _) (by first | omega | (simp <;> omega)) (by unfold maxLen; first | omega | (simp only [List.length_append, List.length_cons, List.length_nil]; omega)) (by simp) (by first | exact (BY _ _ _).symm | simp [AK]) fun A7 c7 w2 M => yb rfl (nq (AI (gr1 rfl ⟨_, _, rfl, M.own 0 rfl, M.fr⟩))))
theorem n9 (g n cap i : Nat) (cs : List Value) (w : World) (hb : Blk w g 126 cs) (hle : n * 5 ≤ cs.length) (h1 : ∀ u ∈ (cs.take (n * 5)).drop ((i + 1) * 5), u.oneCell' = true) (hi : i < n) (hn : n ≤ cap) (hm : cap ≤ maxLen) :
 Calls prog 188 #[.slice (some ⟨g, 0, none⟩) n cap, .int .i64 ((i : Nat) : Int), .int .i64 (((i + 1) : Nat) : Int)] w fun e w' => e = .returned (.slice (some ⟨g, 0, none⟩) (i + (n - (i + 1))) cap) ∧ Blk w' g 126 (WF cs [str [], .int .i64 0, .int .i64 0, str [], .bool false] n i 5) ∧ Fr (fun k => k = g) w w' := by
 have hmx : cap ≤ 9223372036854775807 := hm
 have hlq : i * 5 + ((cs.take (n * 5)).drop ((i + 1) * 5)).length ≤ cs.length := by rw [List.length_drop, List.length_take]; omega
 have hpl : (put cs (i * 5) ((cs.take (n * 5)).drop ((i + 1) * 5))).length = cs.length := IV _ _ _ hlq
 refine BC (vs := [_, _, _]) func188 rfl ntmps188 rfl ?_
 have M : Mem w (fun k => k = g) [As.blk g 126 cs] w := Mem.one hb
 refine srg (yb rfl (nq (srg ?_)))
 iterate 4 refine yb rfl ?_
 refine ya rfl (C7 rfl rfl (sl rfl)) (ya rfl (q9 i (i + 1) n rfl rfl rfl rfl rfl (sl rfl) AO AO AO AO) (AC (AA (AD (AD (AB (yb rfl (yb rfl (CI rfl rfl (AC (AA (AN rfl (fun h16 => ?_) (fun h16 => ?_)))))))))))))
 ·have h16p := (odt h16)
  refine srg (yb rfl (yb rfl (nq (AI (AE (gr1 rfl ?_))))))
  exfalso; omega
 ·have h16p := (odf h16)
  refine AL (AA (srg (yb rfl (ya rfl (C7 rfl rfl (sl rfl)) (yb rfl (nq (AD (DN 6 CU gkr ?_))))))))
  have M := M.drew
  refine sb rfl (sb rfl (sa rfl (nQ i rfl rfl rfl (sl rfl) AO) (sb rfl (sb rfl (sa rfl (Y7 (i + 1) rfl rfl rfl (sl rfl) AO) (CS (CC (some 26) (AF rfl) rfl rfl (fun ρ hρ => RJ (news := (cs.take (n * 5)).drop ((i + 1) * 5)) rfl underlying122 B6 (hρ _ _ rfl) (M.blk 0 rfl) (hρ _ _ rfl) (YW (M.blk 0 rfl) hle AO AO) h1 AO hlq) ?_)))))))
  rintro _ w1 ⟨rfl, hbw1, hfw1⟩
  have M := M.putB 0 rfl hbw1 hfw1
  refine yb rfl (nq (srg (yb rfl (yb rfl (ya rfl (C7 rfl rfl (sl rfl)) (yb rfl (ya rfl (nR (i + (n - (i + 1))) n rfl rfl rfl rfl (sl rfl) AO AO) (CC none (AF rfl) rfl rfl (fun ρ hρ => T5 (zs := [str [], .int .i64 0, .int .i64 0, str [], .bool false]) rfl underlying122 FY rfl (hρ _ _ rfl) AO (M.blk 0 rfl) (BL rfl) (by rw [hpl]; simp only [List.length_cons, List.length_nil]; omega)) ?_))))))))
  rintro _ w2 ⟨hbw2, hfw2⟩
  rw [Nat.zero_add] at hbw2
  have M := M.putB 0 rfl hbw2 hfw2
  exact nq (srg (yb rfl (yb rfl (nq (AI (gr1 rfl ⟨rfl, M.blk 0 rfl, M.fr⟩))))))
theorem qW (base : Nat) (A : Option Addr) (c i : Nat) (l : List Ar) (w : World) (ho : w.ownsRow base 126 5 (.slice A l.length c) l.length (AK Ar.cells l)) (hi : i < l.length) :
 Calls prog 188 #[.slice A l.length c, .int .i64 ((i : Nat) : Int), .int .i64 (((i + 1) : Nat) : Int)] w fun e w' => e = .returned (.slice A (l.eraseIdx i).length c) ∧ w'.ownsRow base 126 5 (.slice A (l.eraseIdx i).length c) (l.eraseIdx i).length (AK Ar.cells (l.eraseIdx i)) ∧ Fr (fun k => k ∈ (Value.slice A l.length c).ownBlock.toList) w w' := by
 rcases ho.2 with ⟨_, h0⟩ | ⟨g, cap, cur, hv, hg, hb, hnc, hcm, hcs, ht⟩
 ·omega
 ·injection hv with e1 _ e3
  subst e1; subst e3
  have hlen : (l.eraseIdx i).length = i + (l.length - (i + 1)) := by rw [List.length_eraseIdx_of_lt hi]; omega
  have hcl : cur.toList.length = c * 5 := by rw [Array.length_toList, hcs]
  have hle : l.length * 5 ≤ cur.toList.length := by rw [hcl]; exact Nat.mul_le_mul_right _ hnc
  have hb' : Blk w g 126 cur.toList := by rw [Blk, Array.toArray_toList]; exact hb
  refine (n9 g l.length c i cur.toList w hb' hle (fun u hu => ?_) hi hnc hcm).mono ?_
  ·rw [ht] at hu
   exact EG Ar.cells_one u (List.mem_of_mem_drop hu)
  ·rintro e w' ⟨rfl, h2, h3⟩
   refine ⟨by rw [hlen], Z0 (fun x => rfl) h2 hg hnc hcm hcl ht hi rfl, h3.mono fun k _ hk => ?_⟩
   subst hk; simp [Value.ownBlock]
theorem n8 (g n cap i : Nat) (cs : List Value) (w : World) (hb : Blk w g 43 cs) (hle : n * 9 ≤ cs.length) (h1 : ∀ u ∈ (cs.take (n * 9)).drop ((i + 1) * 9), u.oneCell' = true) (hi : i < n) (hn : n ≤ cap) (hm : cap ≤ maxLen) :
 Calls prog 24 #[.slice (some ⟨g, 0, none⟩) n cap, .int .i64 ((i : Nat) : Int), .int .i64 (((i + 1) : Nat) : Int)] w fun e w' => e = .returned (.slice (some ⟨g, 0, none⟩) (i + (n - (i + 1))) cap) ∧ Blk w' g 43 (WF cs [.int .i64 0, str [], str [], .int .i64 0, .int .i64 0, str [], .int .i64 0, .int .u8 0, .int .i64 0] n i 9) ∧ Fr (fun k => k = g) w w' := by
 have hmx : cap ≤ 9223372036854775807 := hm
 have hlq : i * 9 + ((cs.take (n * 9)).drop ((i + 1) * 9)).length ≤ cs.length := by rw [List.length_drop, List.length_take]; omega
 have hpl : (put cs (i * 9) ((cs.take (n * 9)).drop ((i + 1) * 9))).length = cs.length := IV _ _ _ hlq
 refine BC (vs := [_, _, _]) func24 rfl ntmps24 rfl ?_
 have M : Mem w (fun k => k = g) [As.blk g 43 cs] w := Mem.one hb
 refine srg (yb rfl (nq (srg ?_)))
 iterate 4 refine yb rfl ?_
 refine ya rfl (C7 rfl rfl (sl rfl)) (ya rfl (q9 i (i + 1) n rfl rfl rfl rfl rfl (sl rfl) AO AO AO AO) (AC (AA (AD (AD (AB (yb rfl (yb rfl (CI rfl rfl (AC (AA (AN rfl (fun h16 => ?_) (fun h16 => ?_)))))))))))))
 ·have h16p := (odt h16)
  refine srg (yb rfl (yb rfl (nq (AI (AE (gr1 rfl ?_))))))
  exfalso; omega
 ·have h16p := (odf h16)
  refine AL (AA (srg (yb rfl (ya rfl (C7 rfl rfl (sl rfl)) (yb rfl (nq (AD (DN 6 CU gkr ?_))))))))
  have M := M.drew
  refine sb rfl (sb rfl (sa rfl (nQ i rfl rfl rfl (sl rfl) AO) (sb rfl (sb rfl (sa rfl (Y7 (i + 1) rfl rfl rfl (sl rfl) AO) (CS (CC (some 26) (AF rfl) rfl rfl (fun ρ hρ => RJ (news := (cs.take (n * 9)).drop ((i + 1) * 9)) rfl underlying27 BB (hρ _ _ rfl) (M.blk 0 rfl) (hρ _ _ rfl) (YW (M.blk 0 rfl) hle AO AO) h1 AO hlq) ?_)))))))
  rintro _ w1 ⟨rfl, hbw1, hfw1⟩
  have M := M.putB 0 rfl hbw1 hfw1
  refine yb rfl (nq (srg (yb rfl (yb rfl (ya rfl (C7 rfl rfl (sl rfl)) (yb rfl (ya rfl (nR (i + (n - (i + 1))) n rfl rfl rfl rfl (sl rfl) AO AO) (CC none (AF rfl) rfl rfl (fun ρ hρ => T5 (zs := [.int .i64 0, str [], str [], .int .i64 0, .int .i64 0, str [], .int .i64 0, .int .u8 0, .int .i64 0]) rfl underlying27 EX rfl (hρ _ _ rfl) AO (M.blk 0 rfl) (BL rfl) (by rw [hpl]; simp only [List.length_cons, List.length_nil]; omega)) ?_))))))))
  rintro _ w2 ⟨hbw2, hfw2⟩
  rw [Nat.zero_add] at hbw2
  have M := M.putB 0 rfl hbw2 hfw2
  exact nq (srg (yb rfl (yb rfl (nq (AI (gr1 rfl ⟨rfl, M.blk 0 rfl, M.fr⟩))))))
theorem qV (base : Nat) (A : Option Addr) (c i : Nat) (l : List Tk) (w : World) (ho : w.ownsRow base 43 9 (.slice A l.length c) l.length (AK Tk.cells l)) (hi : i < l.length) :
 Calls prog 24 #[.slice A l.length c, .int .i64 ((i : Nat) : Int), .int .i64 (((i + 1) : Nat) : Int)] w fun e w' => e = .returned (.slice A (l.eraseIdx i).length c) ∧ w'.ownsRow base 43 9 (.slice A (l.eraseIdx i).length c) (l.eraseIdx i).length (AK Tk.cells (l.eraseIdx i)) ∧ Fr (fun k => k ∈ (Value.slice A l.length c).ownBlock.toList) w w' := by
 rcases ho.2 with ⟨_, h0⟩ | ⟨g, cap, cur, hv, hg, hb, hnc, hcm, hcs, ht⟩
 ·omega
 ·injection hv with e1 _ e3
  subst e1; subst e3
  have hlen : (l.eraseIdx i).length = i + (l.length - (i + 1)) := by rw [List.length_eraseIdx_of_lt hi]; omega
  have hcl : cur.toList.length = c * 9 := by rw [Array.length_toList, hcs]
  have hle : l.length * 9 ≤ cur.toList.length := by rw [hcl]; exact Nat.mul_le_mul_right _ hnc
  have hb' : Blk w g 43 cur.toList := by rw [Blk, Array.toArray_toList]; exact hb
  refine (n8 g l.length c i cur.toList w hb' hle (fun u hu => ?_) hi hnc hcm).mono ?_
  ·rw [ht] at hu
   exact EG Tk.cells_one u (List.mem_of_mem_drop hu)
  ·rintro e w' ⟨rfl, h2, h3⟩
   refine ⟨by rw [hlen], Z0 (fun x => rfl) h2 hg hnc hcm hcl ht hi rfl, h3.mono fun k _ hk => ?_⟩
   subst hk; simp [Value.ownBlock]
theorem mW {α : Type} (cells : α → List Value) (hk : ∀ x, (cells x).length = 5) (A : Option Addr) (c : Nat) (l : List α) (hl : l.length ≤ 4611686018427387904) (f : FuncId) (cs : List Value) (p : Nat → α → Bool) (S : Nat → Prop) (J : Nat → World → Prop) (w : World) (hP : PredJ prog f cs (fun x => .agg (cells x).toArray) l p S J w) (hR : ∀ w1, Fr S w w1 → Rd w1 A (l.length * 5) (AK cells l)) (hJ : J 0 w) :
 Calls prog 167 #[.slice A l.length c, .func (.func f) #[] cs.toArray] w fun e w' => e = .returned (.int .i64 (ixJ p 0 l)) ∧ J (ixN p 0 l) w' ∧ Fr S w w' := by
 refine BC (vs := [_, _]) func167 rfl ntmps167 rfl ?_
 have M : Mem w S [] w := Mem.nil w
 refine srg (yb rfl (nq (AD (srg (yb rfl (ya rfl (C7 rfl rfl (sl rfl)) (yb rfl (nq (AR (flp [7, 1, 0] (fun ze e wr mz => ∃ (i : Nat), e = (8, .int .i64 ((i : Nat) : Int)) :: ze ∧ Mem w S [] wr ∧ (i ≤ l.length) ∧ (J i wr) ∧ (ixJ p 0 l = ixJ p i (l.drop i)) ∧ (ixN p 0 l = ixN p i (l.drop i)) ∧ mz = l.length - i) ⟨0, rfl, M, Nat.zero_le _, hJ, rfl, rfl, rfl⟩ ?_))))))))))
 rintro _ w1 _ ⟨i, rfl, M, hi, hJ, hr, hn, rfl⟩
 refine AD (AB (CB rfl rfl (AC (AA (AD (AN rfl (fun h9 => ?_) (fun h9 => ?_)))))))
 ·have h9p := (odt h9)
  refine AL (AA (AD (AR (srg (yb rfl (yb rfl (nq (srg (yb rfl (yb rfl (yb rfl ?_)))))))))))
  obtain ⟨x, hx⟩ := CA (l := l) (i := i) AO
  obtain ⟨b_x, o_x, hA_x⟩ := BI (k := 5) AO (hR _ M.fr) hx
  refine ya rfl (B1 i hA_x rfl rfl rfl (sl rfl) AO) (ya rfl (AT rfl rfl (BQ hk (hR _ M.fr) hA_x hx) underlying126 rfl B6) (cl 16 rfl (BV rfl rfl rfl hP.fn) (hP.call i x _ hx M.fr hJ) ?_))
  rintro _ w9 ⟨rfl, hJ, hf9⟩
  refine ⟨_, rfl, ?_⟩
  have M : Mem w S [] w9 := Mem.ofFr (M.fr.trans hf9)
  refine AC (AA (AN rfl (fun h16 => ?_) (fun h16 => ?_)))
  ·exact srg (yb rfl (yb rfl (nq (AI (AM (AE (AE (AM (AE (gr1 rfl ⟨by rw [hr, B5 hx, ixJ, if_pos h16], by rw [hn, B5 hx, ixN, if_pos h16]; exact hJ, M.fr⟩))))))))))
  ·refine AL (AH (AA (AB (ya rfl (BF rfl rfl rfl AO) (yb rfl (AC (fag ⟨i + 1, rfl, M, ?_, ?_, ?_, ?_, rfl⟩)))))))
   ·omega
   ·exact hJ
   ·rw [hr, B5 hx, ixJ, if_neg (AS h16)]
   ·rw [hn, B5 hx, ixN, if_neg (AS h16)]
 ·have h9p := (odf h9)
  refine BG (AJ (AJ (AY (AA (srg (yb rfl (nq (AI (gr1 rfl ?_)))))))))
  obtain rfl : i = l.length := by omega
  exact ⟨by rw [hr, List.drop_length]; rfl, by rw [hn, List.drop_length]; exact hJ, M.fr⟩
theorem mU {α : Type} (cells : α → List Value) (hk : ∀ x, (cells x).length = 9) (A : Option Addr) (c : Nat) (l : List α) (hl : l.length ≤ 4611686018427387904) (f : FuncId) (cs : List Value) (p : Nat → α → Bool) (S : Nat → Prop) (J : Nat → World → Prop) (w : World) (hP : PredJ prog f cs (fun x => .agg (cells x).toArray) l p S J w) (hR : ∀ w1, Fr S w w1 → Rd w1 A (l.length * 9) (AK cells l)) (hJ : J 0 w) :
 Calls prog 20 #[.slice A l.length c, .func (.func f) #[] cs.toArray] w fun e w' => e = .returned (.int .i64 (ixJ p 0 l)) ∧ J (ixN p 0 l) w' ∧ Fr S w w' := by
 refine BC (vs := [_, _]) func20 rfl ntmps20 rfl ?_
 have M : Mem w S [] w := Mem.nil w
 refine srg (yb rfl (nq (AD (srg (yb rfl (ya rfl (C7 rfl rfl (sl rfl)) (yb rfl (nq (AR (flp [7, 1, 0] (fun ze e wr mz => ∃ (i : Nat), e = (8, .int .i64 ((i : Nat) : Int)) :: ze ∧ Mem w S [] wr ∧ (i ≤ l.length) ∧ (J i wr) ∧ (ixJ p 0 l = ixJ p i (l.drop i)) ∧ (ixN p 0 l = ixN p i (l.drop i)) ∧ mz = l.length - i) ⟨0, rfl, M, Nat.zero_le _, hJ, rfl, rfl, rfl⟩ ?_))))))))))
 rintro _ w1 _ ⟨i, rfl, M, hi, hJ, hr, hn, rfl⟩
 refine AD (AB (CB rfl rfl (AC (AA (AD (AN rfl (fun h9 => ?_) (fun h9 => ?_)))))))
 ·have h9p := (odt h9)
  refine AL (AA (AD (AR (srg (yb rfl (yb rfl (nq (srg (yb rfl (yb rfl (yb rfl ?_)))))))))))
  obtain ⟨x, hx⟩ := CA (l := l) (i := i) AO
  obtain ⟨b_x, o_x, hA_x⟩ := BI (k := 9) AO (hR _ M.fr) hx
  refine ya rfl (B1 i hA_x rfl rfl rfl (sl rfl) AO) (ya rfl (AT rfl rfl (BQ hk (hR _ M.fr) hA_x hx) underlying43 rfl BB) (cl 16 rfl (BV rfl rfl rfl hP.fn) (hP.call i x _ hx M.fr hJ) ?_))
  rintro _ w9 ⟨rfl, hJ, hf9⟩
  refine ⟨_, rfl, ?_⟩
  have M : Mem w S [] w9 := Mem.ofFr (M.fr.trans hf9)
  refine AC (AA (AN rfl (fun h16 => ?_) (fun h16 => ?_)))
  ·exact srg (yb rfl (yb rfl (nq (AI (AM (AE (AE (AM (AE (gr1 rfl ⟨by rw [hr, B5 hx, ixJ, if_pos h16], by rw [hn, B5 hx, ixN, if_pos h16]; exact hJ, M.fr⟩))))))))))
  ·refine AL (AH (AA (AB (ya rfl (BF rfl rfl rfl AO) (yb rfl (AC (fag ⟨i + 1, rfl, M, ?_, ?_, ?_, ?_, rfl⟩)))))))
   ·omega
   ·exact hJ
   ·rw [hr, B5 hx, ixJ, if_neg (AS h16)]
   ·rw [hn, B5 hx, ixN, if_neg (AS h16)]
 ·have h9p := (odf h9)
  refine BG (AJ (AJ (AY (AA (srg (yb rfl (nq (AI (gr1 rfl ?_)))))))))
  obtain rfl : i = l.length := by omega
  exact ⟨by rw [hr, List.drop_length]; rfl, by rw [hn, List.drop_length]; exact hJ, M.fr⟩
end Go.Proofs.YtjaocmocdhckaaaGreatDoor
