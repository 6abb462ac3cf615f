/- Lemmas that the last text rests on. Condition: each says its own. -/
import Derived.Test.YtjaocmocdhckaaaGreatDoorZDl
set_option maxHeartbeats 16000000
set_option maxRecDepth 100000
namespace Go.Proofs.YtjaocmocdhckaaaGreatDoor
open Go.RowKit
open Tryz
structure Ar where
 flow : List UInt8
 order : Int
 rests : Int
 at_ : List UInt8
 stops : Bool
def Ar.cells (a : Ar) : List Value := [str a.flow, .int .i64 a.order, .int .i64 a.rests, str a.at_, .bool a.stops]
theorem Ar.len (a : Ar) : a.cells.length = 5 := rfl
theorem Ar.cells_one (a : Ar) : ∀ u ∈ a.cells, u.oneCell' = true := BP rfl
theorem Tk.cells_one (t : Tk) : ∀ u ∈ t.cells, u.oneCell' = true := BP rfl
theorem GI : (prog.info? 43).map (fun i => (i.zero, i.size, i.bytes)) = some (some (.agg #[AJ 0, str [], str [], AJ 0, AJ 0, str [], AJ 0, .int .u8 0, AJ 0]), 9, 96) := by kernel_rfl
theorem FJ : (prog.info? 126).map (fun i => (i.zero, i.size, i.bytes)) = some (some (.agg #[str [], AJ 0, AJ 0, str [], .bool false]), 5, 56) := by kernel_rfl
theorem B8 : (prog.info? 126).map (·.size) = some 5 := by kernel_rfl
theorem G3 : (prog.info? 126).map (·.zero) = some (some (.agg #[str [], AJ 0, AJ 0, str [], .bool false])) := by kernel_rfl
theorem aM (A : Option Addr) (c : Nat) (l : List Ar) (w : World) (hl : l.length ≤ 1048576) (hR : Rd w A (l.length * 5) (AH Ar.cells l)) :
 Calls prog 116 #[.slice A l.length c] w fun e w' => ∃ A' c', e = .returned (.slice A' l.length c') ∧ w'.ownsRow w.heap.size 126 5 (.slice A' l.length c') l.length (AH Ar.cells l) ∧ Fr0 w w' := by
 refine C5 func116 ntmps116 rfl fun M => srg (AY rfl (AF (AQ rfl (ya rfl (LP rfl rfl underlying122) (nq (AL rfl (fun h4 => ?_) (fun h4 => ?_)))))))
 ·refine AQ rfl (gnr (AB (gr1 rfl ?_)))
  obtain rfl := OL hR BU h4
  exact ⟨none, 0, rfl, World.ownsRow_nil _ _ _ _, M.fr⟩
 ·refine AI (AD (srg (CH (some 5) (AA rfl) rfl rfl (fun ρ hρ => IM 122 126 5 rfl underlying122 B8) ?_)))
  rintro _ w1 ⟨g5, rfl, hg5, _, _, hfw1, ho5⟩
  have M := M.pushOwn hfw1 (Nat.le_refl _) (ho5 _ (Nat.le_refl _))
  exact yb rfl (EH (len' := l.length) (xs' := AH Ar.cells l) M 0 (AA rfl) rfl rfl rfl rfl rfl rfl (hR.fr0 M.fr) underlying122 FJ rfl BU (EJ Ar.cells_one) (Nat.le_refl _) (Nat.le_refl _) CX (by unfold maxLen; first | omega | (simp only [List.length_append, List.length_cons, List.length_nil]; omega)) (by simp) (by first | exact (C1 _ _ _).symm | simp [AH]) fun A7 c7 w2 M => yb rfl (gnr (gr1 rfl ⟨_, _, rfl, M.own 0 rfl, M.fr⟩)))
theorem o8 (A : Option Addr) (c : Nat) (l : List Tk) (w : World) (hl : l.length ≤ 1048576) (hR : Rd w A (l.length * 9) (AH Tk.cells l)) :
 Calls prog 25 #[.slice A l.length c] w fun e w' => ∃ A' c', e = .returned (.slice A' l.length c') ∧ w'.ownsRow w.heap.size 43 9 (.slice A' l.length c') l.length (AH Tk.cells l) ∧ Fr0 w w' := by
 refine C5 func25 ntmps25 rfl fun M => srg (AY rfl (AF (AQ rfl (ya rfl (LP rfl rfl underlying27) (nq (AL rfl (fun h4 => ?_) (fun h4 => ?_)))))))
 ·refine AQ rfl (gnr (AB (gr1 rfl ?_)))
  obtain rfl := OL hR BU h4
  exact ⟨none, 0, rfl, World.ownsRow_nil _ _ _ _, M.fr⟩
 ·refine AI (AD (srg (CH (some 5) (AA rfl) rfl rfl (fun ρ hρ => IM 27 43 9 rfl underlying27 BD) ?_)))
  rintro _ w1 ⟨g5, rfl, hg5, _, _, hfw1, ho5⟩
  have M := M.pushOwn hfw1 (Nat.le_refl _) (ho5 _ (Nat.le_refl _))
  exact yb rfl (EH (len' := l.length) (xs' := AH Tk.cells l) M 0 (AA rfl) rfl rfl rfl rfl rfl rfl (hR.fr0 M.fr) underlying27 GI rfl BU (EJ Tk.cells_one) (Nat.le_refl _) (Nat.le_refl _) CX (by unfold maxLen; first | omega | (simp only [List.length_append, List.length_cons, List.length_nil]; omega)) (by simp) (by first | exact (C1 _ _ _).symm | simp [AH]) fun A7 c7 w2 M => yb rfl (gnr (gr1 rfl ⟨_, _, rfl, M.own 0 rfl, M.fr⟩)))
theorem o4 (g n cap i : Nat) (cs : List Value) (w : World) (hb : Blk w g 126 cs) (hle : n * 5 ≤ cs.length) (h1 : ∀ u ∈ (cs.take (n * 5)).drop ((i + 1) * 5), u.oneCell' = true) (hi : i < n) (hn : n ≤ cap) (hm : cap ≤ maxLen) :
 Calls prog 188 #[.slice (some ⟨g, 0, none⟩) n cap, AJ ((i : Nat) : Int), AJ (((i + 1) : Nat) : Int)] w fun e w' => e = .returned (.slice (some ⟨g, 0, none⟩) (i + (n - (i + 1))) cap) ∧ Blk w' g 126 (X9 cs [str [], AJ 0, AJ 0, str [], .bool false] n i 5) ∧ Fr (fun k => k = g) w w' := by
 have hmx : cap ≤ 9223372036854775807 := hm
 have hlq : i * 5 + ((cs.take (n * 5)).drop ((i + 1) * 5)).length ≤ cs.length := by rw [List.length_drop, List.length_take]; omega
 have hpl : (put cs (i * 5) ((cs.take (n * 5)).drop ((i + 1) * 5))).length = cs.length := J9 _ _ _ hlq
 refine BE (vs := [_, _, _]) func188 rfl ntmps188 rfl ?_
 have M : Mem w (fun k => k = g) [As.blk g 126 cs] w := Mem.one hb
 refine srg (AY rfl (srg ?_))
 iterate 4 refine yb rfl ?_
 refine ya rfl (C3 rfl rfl (sl rfl)) (ya rfl (rD i (i + 1) n rfl rfl rfl rfl rfl (sl rfl) AM AM AM AM) (nq (AF (AQ rfl (yb rfl (CN rfl rfl (nq (AL rfl (fun h16 => ?_) (fun h16 => ?_)))))))))
 ·have h16p := (odt h16)
  refine AQ rfl (yb rfl (gnr (AB (gr1 rfl ?_))))
  exfalso; omega
 ·have h16p := (odf h16)
  refine AI (AD (AQ rfl (ya rfl (C3 rfl rfl (sl rfl)) (AY rfl (AF (DP 6 CZ gkr ?_))))))
  have M := M.drew
  refine sb rfl (sb rfl (sa rfl (oP i rfl rfl rfl (sl rfl) AM) (sb rfl (sb rfl (sa rfl (Z0 (i + 1) rfl rfl rfl (sl rfl) AM) (CS (CH (some 26) (AA rfl) rfl rfl (fun ρ hρ => S6 (news := (cs.take (n * 5)).drop ((i + 1) * 5)) rfl underlying122 B8 (hρ _ _ rfl) (M.blk 0 rfl) (hρ _ _ rfl) (ZL (M.blk 0 rfl) hle AM AM) h1 AM hlq) ?_)))))))
  rintro _ w1 ⟨rfl, hbw1, hfw1⟩
  have M := M.putB 0 rfl hbw1 hfw1
  refine AY rfl (AQ rfl (yb rfl (ya rfl (C3 rfl rfl (sl rfl)) (yb rfl (ya rfl (oQ (i + (n - (i + 1))) n rfl rfl rfl rfl (sl rfl) AM AM) (CH none (AA rfl) rfl rfl (fun ρ hρ => TW (zs := [str [], AJ 0, AJ 0, str [], .bool false]) rfl underlying122 G3 rfl (hρ _ _ rfl) AM (M.blk 0 rfl) (BP rfl) (by rw [hpl]; simp only [List.length_cons, List.length_nil]; omega)) ?_))))))
  rintro _ w2 ⟨hbw2, hfw2⟩
  rw [Nat.zero_add] at hbw2
  have M := M.putB 0 rfl hbw2 hfw2
  exact nq (AQ rfl (yb rfl (gnr (gr1 rfl ⟨rfl, M.blk 0 rfl, M.fr⟩))))
theorem sA (base : Nat) (A : Option Addr) (c i : Nat) (l : List Ar) (w : World) (ho : w.ownsRow base 126 5 (.slice A l.length c) l.length (AH Ar.cells l)) (hi : i < l.length) :
 Calls prog 188 #[.slice A l.length c, AJ ((i : Nat) : Int), AJ (((i + 1) : Nat) : Int)] w fun e w' => e = .returned (.slice A (l.eraseIdx i).length c) ∧ w'.ownsRow base 126 5 (.slice A (l.eraseIdx i).length c) (l.eraseIdx i).length (AH Ar.cells (l.eraseIdx i)) ∧ Fr (fun k => k ∈ (Value.slice A l.length c).ownBlock.toList) w w' := by
 rcases ho.2 with ⟨_, h0⟩ | ⟨g, cap, cur, hv, hg, hb, hnc, hcm, hcs, ht⟩
 ·omega
 ·injection hv with e1 _ e3
  subst e1; subst e3
  have hlen : (l.eraseIdx i).length = i + (l.length - (i + 1)) := by rw [List.length_eraseIdx_of_lt hi]; omega
  have hcl : cur.toList.length = c * 5 := by rw [Array.length_toList, hcs]
  have hle : l.length * 5 ≤ cur.toList.length := by rw [hcl]; exact Nat.mul_le_mul_right _ hnc
  have hb' : Blk w g 126 cur.toList := by rw [Blk, Array.toArray_toList]; exact hb
  refine (o4 g l.length c i cur.toList w hb' hle (fun u hu => ?_) hi hnc hcm).mono ?_
  ·rw [ht] at hu
   exact EJ Ar.cells_one u (List.mem_of_mem_drop hu)
  ·rintro e w' ⟨rfl, h2, h3⟩
   refine ⟨by rw [hlen], ZP (fun x => rfl) h2 hg hnc hcm hcl ht hi rfl, h3.mono fun k _ hk => ?_⟩
   subst hk; simp [Value.ownBlock]
theorem o3 (g n cap i : Nat) (cs : List Value) (w : World) (hb : Blk w g 43 cs) (hle : n * 9 ≤ cs.length) (h1 : ∀ u ∈ (cs.take (n * 9)).drop ((i + 1) * 9), u.oneCell' = true) (hi : i < n) (hn : n ≤ cap) (hm : cap ≤ maxLen) :
 Calls prog 24 #[.slice (some ⟨g, 0, none⟩) n cap, AJ ((i : Nat) : Int), AJ (((i + 1) : Nat) : Int)] w fun e w' => e = .returned (.slice (some ⟨g, 0, none⟩) (i + (n - (i + 1))) cap) ∧ Blk w' g 43 (X9 cs [AJ 0, str [], str [], AJ 0, AJ 0, str [], AJ 0, .int .u8 0, AJ 0] n i 9) ∧ Fr (fun k => k = g) w w' := by
 have hmx : cap ≤ 9223372036854775807 := hm
 have hlq : i * 9 + ((cs.take (n * 9)).drop ((i + 1) * 9)).length ≤ cs.length := by rw [List.length_drop, List.length_take]; omega
 have hpl : (put cs (i * 9) ((cs.take (n * 9)).drop ((i + 1) * 9))).length = cs.length := J9 _ _ _ hlq
 refine BE (vs := [_, _, _]) func24 rfl ntmps24 rfl ?_
 have M : Mem w (fun k => k = g) [As.blk g 43 cs] w := Mem.one hb
 refine srg (AY rfl (srg ?_))
 iterate 4 refine yb rfl ?_
 refine ya rfl (C3 rfl rfl (sl rfl)) (ya rfl (rD i (i + 1) n rfl rfl rfl rfl rfl (sl rfl) AM AM AM AM) (nq (AF (AQ rfl (yb rfl (CN rfl rfl (nq (AL rfl (fun h16 => ?_) (fun h16 => ?_)))))))))
 ·have h16p := (odt h16)
  refine AQ rfl (yb rfl (gnr (AB (gr1 rfl ?_))))
  exfalso; omega
 ·have h16p := (odf h16)
  refine AI (AD (AQ rfl (ya rfl (C3 rfl rfl (sl rfl)) (AY rfl (AF (DP 6 CZ gkr ?_))))))
  have M := M.drew
  refine sb rfl (sb rfl (sa rfl (oP i rfl rfl rfl (sl rfl) AM) (sb rfl (sb rfl (sa rfl (Z0 (i + 1) rfl rfl rfl (sl rfl) AM) (CS (CH (some 26) (AA rfl) rfl rfl (fun ρ hρ => S6 (news := (cs.take (n * 9)).drop ((i + 1) * 9)) rfl underlying27 BD (hρ _ _ rfl) (M.blk 0 rfl) (hρ _ _ rfl) (ZL (M.blk 0 rfl) hle AM AM) h1 AM hlq) ?_)))))))
  rintro _ w1 ⟨rfl, hbw1, hfw1⟩
  have M := M.putB 0 rfl hbw1 hfw1
  refine AY rfl (AQ rfl (yb rfl (ya rfl (C3 rfl rfl (sl rfl)) (yb rfl (ya rfl (oQ (i + (n - (i + 1))) n rfl rfl rfl rfl (sl rfl) AM AM) (CH none (AA rfl) rfl rfl (fun ρ hρ => TW (zs := [AJ 0, str [], str [], AJ 0, AJ 0, str [], AJ 0, .int .u8 0, AJ 0]) rfl underlying27 FE rfl (hρ _ _ rfl) AM (M.blk 0 rfl) (BP rfl) (by rw [hpl]; simp only [List.length_cons, List.length_nil]; omega)) ?_))))))
  rintro _ w2 ⟨hbw2, hfw2⟩
  rw [Nat.zero_add] at hbw2
  have M := M.putB 0 rfl hbw2 hfw2
  exact nq (AQ rfl (yb rfl (gnr (gr1 rfl ⟨rfl, M.blk 0 rfl, M.fr⟩))))
theorem s9 (base : Nat) (A : Option Addr) (c i : Nat) (l : List Tk) (w : World) (ho : w.ownsRow base 43 9 (.slice A l.length c) l.length (AH Tk.cells l)) (hi : i < l.length) :
 Calls prog 24 #[.slice A l.length c, AJ ((i : Nat) : Int), AJ (((i + 1) : Nat) : Int)] w fun e w' => e = .returned (.slice A (l.eraseIdx i).length c) ∧ w'.ownsRow base 43 9 (.slice A (l.eraseIdx i).length c) (l.eraseIdx i).length (AH Tk.cells (l.eraseIdx i)) ∧ Fr (fun k => k ∈ (Value.slice A l.length c).ownBlock.toList) w w' := by
 rcases ho.2 with ⟨_, h0⟩ | ⟨g, cap, cur, hv, hg, hb, hnc, hcm, hcs, ht⟩
 ·omega
 ·injection hv with e1 _ e3
  subst e1; subst e3
  have hlen : (l.eraseIdx i).length = i + (l.length - (i + 1)) := by rw [List.length_eraseIdx_of_lt hi]; omega
  have hcl : cur.toList.length = c * 9 := by rw [Array.length_toList, hcs]
  have hle : l.length * 9 ≤ cur.toList.length := by rw [hcl]; exact Nat.mul_le_mul_right _ hnc
  have hb' : Blk w g 43 cur.toList := by rw [Blk, Array.toArray_toList]; exact hb
  refine (o3 g l.length c i cur.toList w hb' hle (fun u hu => ?_) hi hnc hcm).mono ?_
  ·rw [ht] at hu
   exact EJ Tk.cells_one u (List.mem_of_mem_drop hu)
  ·rintro e w' ⟨rfl, h2, h3⟩
   refine ⟨by rw [hlen], ZP (fun x => rfl) h2 hg hnc hcm hcl ht hi rfl, h3.mono fun k _ hk => ?_⟩
   subst hk; simp [Value.ownBlock]
theorem nW {α : Type} (cells : α → List Value) (hk : ∀ x, (cells x).length = 5) (A : Option Addr) (c : Nat) (l : List α) (hl : l.length ≤ 4611686018427387904) (f : FuncId) (cs : List Value) (p : Nat → α → Bool) (S : Nat → Prop) (J : Nat → World → Prop) (w : World) (hP : PredJ prog f cs (fun x => .agg (cells x).toArray) l p S J w) (hR : ∀ w1, Fr S w w1 → Rd w1 A (l.length * 5) (AH cells l)) (hJ : J 0 w) :
 Calls prog 167 #[.slice A l.length c, .func (.func f) #[] cs.toArray] w fun e w' => e = .returned (AJ (ixJ p 0 l)) ∧ J (ixN p 0 l) w' ∧ Fr S w w' := by
 refine BE (vs := [_, _]) func167 rfl ntmps167 rfl ?_
 have M : Mem w S [] w := Mem.nil w
 refine srg (AY rfl (AF (AQ rfl (ya rfl (C3 rfl rfl (sl rfl)) (AY rfl (AS (flp [7, 1, 0] (fun ze e wr mz => ∃ (i : Nat), e = (8, AJ ((i : Nat) : Int)) :: ze ∧ Mem w S [] wr ∧ (i ≤ l.length) ∧ (J i wr) ∧ (ixJ p 0 l = ixJ p i (l.drop i)) ∧ (ixN p 0 l = ixN p i (l.drop i)) ∧ mz = l.length - i) ⟨0, rfl, M, Nat.zero_le _, hJ, rfl, rfl, rfl⟩ ?_)))))))
 rintro _ w1 _ ⟨i, rfl, M, hi, hJ, hr, hn, rfl⟩
 refine srg (CF rfl rfl (nq (AF (AL rfl (fun h9 => ?_) (fun h9 => ?_)))))
 ·have h9p := (odt h9)
  refine AI (AD (AF (AS (AQ rfl (AY rfl (AQ rfl (BM rfl rfl ?_)))))))
  obtain ⟨x, hx⟩ := CC (l := l) (i := i) AM
  obtain ⟨b_x, o_x, hA_x⟩ := BI (k := 5) AM (hR _ M.fr) hx
  refine ya rfl (B1 i hA_x rfl rfl rfl (sl rfl) AM) (ya rfl (AU rfl rfl (BV hk (hR _ M.fr) hA_x hx) underlying126 rfl B8) (cl 16 rfl (BX rfl rfl rfl hP.fn) (hP.call i x _ hx M.fr hJ) ?_))
  rintro _ w9 ⟨rfl, hJ, hf9⟩
  refine ⟨_, rfl, ?_⟩
  have M : Mem w S [] w9 := Mem.ofFr (M.fr.trans hf9)
  refine nq (AL rfl (fun h16 => ?_) (fun h16 => ?_))
  ·exact AQ rfl (yb rfl (gnr (AN (AB (AB (AN (AB (gr1 rfl ⟨by rw [hr, B7 hx, ixJ, if_pos h16], by rw [hn, B7 hx, ixN, if_pos h16]; exact hJ, M.fr⟩))))))))
  ·refine AI (AE (AD (AK (ya rfl (BO rfl rfl rfl AM) (yb rfl (AR (fag ⟨i + 1, rfl, M, ?_, ?_, ?_, ?_, rfl⟩)))))))
   ·omega
   ·exact hJ
   ·rw [hr, B7 hx, ixJ, AT h16]
   ·rw [hn, B7 hx, ixN, AT h16]
 ·have h9p := (odf h9)
  refine BF (AG (AG (AV (AD (AQ rfl (gnr (gr1 rfl ?_)))))))
  obtain rfl : i = l.length := by omega
  exact ⟨by rw [hr, List.drop_length]; rfl, by rw [hn, List.drop_length]; exact hJ, M.fr⟩
theorem nU {α : Type} (cells : α → List Value) (hk : ∀ x, (cells x).length = 9) (A : Option Addr) (c : Nat) (l : List α) (hl : l.length ≤ 4611686018427387904) (f : FuncId) (cs : List Value) (p : Nat → α → Bool) (S : Nat → Prop) (J : Nat → World → Prop) (w : World) (hP : PredJ prog f cs (fun x => .agg (cells x).toArray) l p S J w) (hR : ∀ w1, Fr S w w1 → Rd w1 A (l.length * 9) (AH cells l)) (hJ : J 0 w) :
 Calls prog 20 #[.slice A l.length c, .func (.func f) #[] cs.toArray] w fun e w' => e = .returned (AJ (ixJ p 0 l)) ∧ J (ixN p 0 l) w' ∧ Fr S w w' := by
 refine BE (vs := [_, _]) func20 rfl ntmps20 rfl ?_
 have M : Mem w S [] w := Mem.nil w
 refine srg (AY rfl (AF (AQ rfl (ya rfl (C3 rfl rfl (sl rfl)) (AY rfl (AS (flp [7, 1, 0] (fun ze e wr mz => ∃ (i : Nat), e = (8, AJ ((i : Nat) : Int)) :: ze ∧ Mem w S [] wr ∧ (i ≤ l.length) ∧ (J i wr) ∧ (ixJ p 0 l = ixJ p i (l.drop i)) ∧ (ixN p 0 l = ixN p i (l.drop i)) ∧ mz = l.length - i) ⟨0, rfl, M, Nat.zero_le _, hJ, rfl, rfl, rfl⟩ ?_)))))))
 rintro _ w1 _ ⟨i, rfl, M, hi, hJ, hr, hn, rfl⟩
 refine srg (CF rfl rfl (nq (AF (AL rfl (fun h9 => ?_) (fun h9 => ?_)))))
 ·have h9p := (odt h9)
  refine AI (AD (AF (AS (AQ rfl (AY rfl (AQ rfl (BM rfl rfl ?_)))))))
  obtain ⟨x, hx⟩ := CC (l := l) (i := i) AM
  obtain ⟨b_x, o_x, hA_x⟩ := BI (k := 9) AM (hR _ M.fr) hx
  refine ya rfl (B1 i hA_x rfl rfl rfl (sl rfl) AM) (ya rfl (AU rfl rfl (BV hk (hR _ M.fr) hA_x hx) underlying43 rfl BD) (cl 16 rfl (BX rfl rfl rfl hP.fn) (hP.call i x _ hx M.fr hJ) ?_))
  rintro _ w9 ⟨rfl, hJ, hf9⟩
  refine ⟨_, rfl, ?_⟩
  have M : Mem w S [] w9 := Mem.ofFr (M.fr.trans hf9)
  refine nq (AL rfl (fun h16 => ?_) (fun h16 => ?_))
  ·exact AQ rfl (yb rfl (gnr (AN (AB (AB (AN (AB (gr1 rfl ⟨by rw [hr, B7 hx, ixJ, if_pos h16], by rw [hn, B7 hx, ixN, if_pos h16]; exact hJ, M.fr⟩))))))))
  ·refine AI (AE (AD (AK (ya rfl (BO rfl rfl rfl AM) (yb rfl (AR (fag ⟨i + 1, rfl, M, ?_, ?_, ?_, ?_, rfl⟩)))))))
   ·omega
   ·exact hJ
   ·rw [hr, B7 hx, ixJ, AT h16]
   ·rw [hn, B7 hx, ixN, AT h16]
 ·have h9p := (odf h9)
  refine BF (AG (AG (AV (AD (AQ rfl (gnr (gr1 rfl ?_)))))))
  obtain rfl : i = l.length := by omega
  exact ⟨by rw [hr, List.drop_length]; rfl, by rw [hn, List.drop_length]; exact hJ, M.fr⟩
end Go.Proofs.YtjaocmocdhckaaaGreatDoor
