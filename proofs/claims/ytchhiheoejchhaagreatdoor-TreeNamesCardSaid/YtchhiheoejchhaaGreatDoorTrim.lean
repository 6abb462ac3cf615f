/- Contracts of bytes.trimRightByte, trimLeftByte and Trim at the cutset of one zero byte. -/
import Derived.Test.YtchhiheoejchhaaGreatDoorBase3
import Derived.Test.YtchhiheoejchhaaGreatDoorProg
import Derived.WalkSpells
namespace Go.Proofs.YtchhiheoejchhaaGreatDoor
open Go.RowKit

/-- How many bytes stay when zeros are taken off the end. -/
def rn : List UInt8 → Nat
  | [] => 0
  | c :: l => if rn l = 0 then (if c = 0 then 0 else 1) else rn l + 1
/-- How many zeros it begins with. -/
def lz : List UInt8 → Nat
  | [] => 0
  | c :: l => if c = 0 then lz l + 1 else 0
theorem rn_le (l : List UInt8) : rn l ≤ l.length := by
  induction l with
  | nil => simp [rn]
  | cons c l ih => simp only [rn, List.length_cons]; split <;> (try split) <;> omega
theorem rn_zero {l : List UInt8} : rn l = 0 ↔ ∀ c ∈ l, c = 0 := by
  induction l with
  | nil => simp [rn]
  | cons c l ih =>
    simp only [rn, List.mem_cons, forall_eq_or_imp]
    by_cases h : rn l = 0
    · rw [if_pos h]
      by_cases hc : c = 0
      · simpa [hc] using ih.1 h
      · simp [hc]
    · rw [if_neg h]
      constructor
      · intro hh; omega
      · intro hh; exact absurd (ih.2 hh.2) h
theorem rn_last {l : List UInt8} {n : Nat} (h : rn l = n + 1) : ∃ c, l[n]? = some c ∧ c ≠ 0 := by
  induction l generalizing n with
  | nil => simp [rn] at h
  | cons c l ih =>
    simp only [rn] at h
    by_cases h0 : rn l = 0
    · rw [if_pos h0] at h
      by_cases hc : c = 0
      · rw [if_pos hc] at h; omega
      · rw [if_neg hc] at h
        obtain rfl : n = 0 := by omega
        exact ⟨c, rfl, hc⟩
    · rw [if_neg h0] at h
      obtain ⟨m, rfl⟩ : ∃ m, n = m + 1 := ⟨n - 1, by omega⟩
      obtain ⟨d, hd, hne⟩ := ih (n := m) (by omega)
      exact ⟨d, by simpa using hd, hne⟩
theorem rn_behind {l : List UInt8} {j : Nat} {c : UInt8} (h : rn l ≤ j) (hc : l[j]? = some c) : c = 0 := by
  induction l generalizing j with
  | nil => simp at hc
  | cons d l ih =>
    simp only [rn] at h
    by_cases h0 : rn l = 0
    · rw [if_pos h0] at h
      by_cases hd : d = 0
      · have : ∀ x ∈ d :: l, x = 0 := by
          intro x hx
          rcases List.mem_cons.1 hx with rfl | hx
          · exact hd
          · exact rn_zero.1 h0 x hx
        exact this c (List.mem_of_getElem? hc)
      · rw [if_neg hd] at h
        obtain ⟨m, rfl⟩ : ∃ m, j = m + 1 := ⟨j - 1, by omega⟩
        exact rn_zero.1 h0 c (List.mem_of_getElem? (by simpa using hc))
    · rw [if_neg h0] at h
      obtain ⟨m, rfl⟩ : ∃ m, j = m + 1 := ⟨j - 1, by omega⟩
      exact ih (j := m) (by omega) (by simpa using hc)
theorem lz_before {l : List UInt8} {j : Nat} {c : UInt8} (h : j < lz l) (hc : l[j]? = some c) : c = 0 := by
  induction l generalizing j with
  | nil => simp at hc
  | cons d l ih =>
    simp only [lz] at h
    by_cases hd : d = 0
    · rw [if_pos hd] at h
      cases j with
      | zero => simp at hc; rw [← hc]; exact hd
      | succ j => exact ih (j := j) (by omega) (by simpa using hc)
    · rw [if_neg hd] at h; omega
theorem lz_at {l : List UInt8} {c : UInt8} (hc : l[lz l]? = some c) : c ≠ 0 := by
  induction l with
  | nil => simp at hc
  | cons d l ih =>
    simp only [lz] at hc
    by_cases hd : d = 0
    · rw [if_pos hd] at hc; exact ih (by simpa using hc)
    · rw [if_neg hd] at hc; simp at hc; rw [← hc]; exact hd
theorem lz_lt_rn {l : List UInt8} (h : 0 < rn l) : lz l < rn l := by
  obtain ⟨n, hn⟩ : ∃ n, rn l = n + 1 := ⟨rn l - 1, by omega⟩
  obtain ⟨c, hc, hne⟩ := rn_last hn
  rcases Nat.lt_or_ge n (lz l) with hh | hh
  · exact absurd (lz_before hh hc) hne
  · omega

theorem Rd.sub {w : World} {b off len : Nat} {xs : List Value} (h : Rd w (some ⟨b, off, none⟩) len xs) (k m : Nat) (hk : k + m ≤ len) : Rd w (some ⟨b, off + k, none⟩) m ((xs.drop k).take m) := by
  refine ⟨by have := h.1; simp; omega, fun h0 => ⟨b, off + k, rfl, fun j u hu => ?_⟩⟩
  obtain ⟨b', off', e, hc⟩ := h.2 (by omega)
  injection e with e; injection e with e1 e2 _; subst e1; subst e2
  simp only [List.getElem?_take, List.getElem?_drop] at hu
  split at hu
  · rw [Nat.add_assoc]; exact hc _ u hu
  · cases hu
theorem rd_byte {w : World} {b off len : Nat} {l : List UInt8} (hr : Rd w (some ⟨b, off, none⟩) len (bvs l)) {k : Nat} {c : UInt8} (hc : l[k]? = some c) : w.cell? ⟨b, off + k, none⟩ = some (.int .u8 (c.toNat : Int)) := by
  have hl : l.length = len := by rw [← bvs_length, hr.1]
  have hk : k < len := by rw [← hl]; exact (List.getElem?_eq_some_iff.1 hc).1
  obtain ⟨b', off', e, u, hu, hcell⟩ := hr.at_ hk
  injection e with e; injection e with e1 e2 _; subst e1; subst e2
  rw [bvs_getElem?, hc] at hu
  rw [hcell, ← hu]; rfl

set_option maxHeartbeats 400000 in
theorem trimRight_any (b off len cap : Nat) (l : List UInt8) (w : World) (_hm : len ≤ 140737488351232) (hcap : len ≤ cap) (hr : Rd w (some ⟨b, off, none⟩) len (bvs l)) :
    Calls Tryz.prog 110 #[.slice (some ⟨b, off, none⟩) len cap, .int .u8 0] w fun e w' => e = .returned (.slice (some ⟨b, off, none⟩) (rn l) cap) ∧ w = w' := by
  have HL := Lib.hid (show l.length = len by rw [← bvs_length, hr.1])
  have HR := Lib.hid hr
  have hrl : rn l ≤ len := by rw [← HL.out]; exact rn_le l
  clear hr
  go_enter Tryz.func110, Tryz.ntmps110
  go_wp2
  go_loop [0] (fun s => ∃ n : Nat, rn l ≤ n ∧ n ≤ len ∧ s = .slice (some ⟨b, off, none⟩) n cap) (fun s => sliceLen s)
  case atStart => exact ⟨len, hrl, Nat.le_refl _, rfl⟩
  case round =>
    obtain ⟨n, hn1, hn2, rfl⟩ := hrel
    by_cases h0 : n = 0
    · subst h0
      have hz : Hid (rn l = 0) := Lib.hid (by omega)
      go_wp2
      go_ret
      exact ⟨by rw [hz.out]; rfl, rfl⟩
    · obtain ⟨k, rfl⟩ : ∃ k, n = k + 1 := ⟨n - 1, by omega⟩
      obtain ⟨c, hc⟩ : ∃ c, l[k]? = some c := ⟨_, List.getElem?_eq_getElem (by rw [HL.out]; omega)⟩
      have HC := Lib.hid hc
      have hcell := rd_byte HR.out hc
      clear hc h0
      by_cases hlt : rn l < k + 1
      · obtain rfl : c = 0 := rn_behind (by omega) HC.out
        have h0 : ((0 : UInt8).toNat : Int) = 0 := rfl
        rw [h0] at hcell
        clear h0
        have hb : 0 < cap := by omega
        go_wp2
        go_round
        case rel => exact ⟨k, by omega, by omega, rfl⟩
        case measure => simp [sliceLen]
      · have HN := Lib.hid (show rn l = k + 1 by omega)
        obtain ⟨d, hd, hne⟩ := rn_last HN.out
        rw [HC.out] at hd
        obtain rfl : c = d := by simpa using hd
        have hcz : ((c.toNat : Int) == 0) = false := by
          rw [beq_eq_false_iff_ne]; intro h; exact hne (UInt8.toNat_inj.1 (by simpa using h))
        clear hd hne
        go_wp2
        go_ret
        exact ⟨by rw [HN.out]; rfl, rfl⟩

set_option maxHeartbeats 400000 in
theorem trimLeft_some (b off n cap : Nat) (l : List UInt8) (w : World) (_hm : n ≤ 140737488351232) (hcap : n ≤ cap) (hl : n ≤ l.length) (hz : lz l < n) (hr : Rd w (some ⟨b, off, none⟩) l.length (bvs l)) :
    Calls Tryz.prog 109 #[.slice (some ⟨b, off, none⟩) n cap, .int .u8 0] w fun e w' => e = .returned (.slice (some ⟨b, off + lz l, none⟩) (n - lz l) (cap - lz l)) ∧ w = w' := by
  have HR := Lib.hid hr
  clear hr
  go_enter Tryz.func109, Tryz.ntmps109
  go_wp2
  go_loop [0] (fun s => ∃ k : Nat, k ≤ lz l ∧ s = .slice (some ⟨b, off + k, none⟩) (n - k) (cap - k)) (fun s => sliceLen s)
  case atStart => exact ⟨0, Nat.zero_le _, rfl⟩
  case round =>
    obtain ⟨k, hk, rfl⟩ := hrel
    obtain ⟨c, hc⟩ : ∃ c, l[k]? = some c := ⟨_, List.getElem?_eq_getElem (by omega)⟩
    have HC := Lib.hid hc
    have hcell := rd_byte HR.out hc
    clear hc
    obtain ⟨m, hm'⟩ : ∃ m, n - k = m + 1 := ⟨n - k - 1, by omega⟩
    obtain ⟨q, hq'⟩ : ∃ q, cap - k = q + 1 := ⟨cap - k - 1, by omega⟩
    have HM := Lib.hid hm'
    have HQ := Lib.hid hq'
    have hmb : m + 1 ≤ n := by omega
    have hqm : m ≤ q := by omega
    rw [hm', hq']
    clear hm' hq'
    by_cases hlt : k < lz l
    · obtain rfl : c = 0 := lz_before hlt HC.out
      have h0 : ((0 : UInt8).toNat : Int) = 0 := rfl
      rw [h0] at hcell
      clear h0
      have hq0 : ¬ q = 0 := by have := HM.out; have := HQ.out; omega
      go_wp2
      go_round
      case rel =>
        refine ⟨k + 1, by omega, ?_⟩
        have h1 := HM.out
        have h2 := HQ.out
        rw [show n - (k + 1) = m from by omega, show cap - (k + 1) = q from by omega, Nat.add_assoc]
      case measure => simp [sliceLen]
    · have HK := Lib.hid (show k = lz l by omega)
      have hcz : ((c.toNat : Int) == 0) = false := by
        have hne := lz_at (l := l) (c := c) (by rw [← HK.out]; exact HC.out)
        rw [beq_eq_false_iff_ne]; intro h; exact hne (UInt8.toNat_inj.1 (by simpa using h))
      go_wp2
      go_ret
      refine ⟨?_, rfl⟩
      rw [← HK.out, HM.out, HQ.out]; rfl

theorem trimLeft_none (A : Option Addr) (cap : Nat) (w : World) :
    Calls Tryz.prog 109 #[.slice A 0 cap, .int .u8 0] w fun e w' => e = .returned (.slice none 0 0) ∧ w = w' := by
  go_enter Tryz.func109, Tryz.ntmps109
  go_wp2
  refine wp_loop_rounds 1 ?_
  rw [rounds_succ]
  go_wp2
  go_ret
  exact ⟨rfl, rfl⟩

/-- What is left of a row when zeros are taken off both ends. -/
def trimV (b off cap : Nat) (l : List UInt8) : Value :=
  if rn l = 0 then .slice none 0 0 else .slice (some ⟨b, off + lz l, none⟩) (rn l - lz l) (cap - lz l)
theorem trimLeft_any (b off cap : Nat) (l : List UInt8) (w : World) (hm : l.length ≤ 140737488351232) (hcap : l.length ≤ cap) (hr : Rd w (some ⟨b, off, none⟩) l.length (bvs l)) :
    Calls Tryz.prog 109 #[.slice (some ⟨b, off, none⟩) (rn l) cap, .int .u8 0] w fun e w' => e = .returned (trimV b off cap l) ∧ w = w' := by
  have hle := rn_le l
  unfold trimV
  by_cases h : rn l = 0
  · rw [if_pos h, h]
    exact trimLeft_none _ _ w
  · rw [if_neg h]
    exact trimLeft_some b off (rn l) cap l w (by omega) (by omega) hle (lz_lt_rn (by omega)) hr

set_option maxRecDepth 100000 in
set_option maxHeartbeats 400000 in
theorem trim_some (b off cap : Nat) (l : List UInt8) (w : World) (hm : l.length ≤ 140737488351232) (hcap : l.length ≤ cap) (h0 : 0 < l.length) (hr : Rd w (some ⟨b, off, none⟩) l.length (bvs l)) :
    Calls Tryz.prog 105 #[.slice (some ⟨b, off, none⟩) l.length cap, .string ⟨#[0]⟩] w fun e w' => e = .returned (trimV b off cap l) ∧ ∃ m, w' = w.drewN m := by
  have HR := Lib.hid hr
  have hl0 : ((l.length : Int) == 0) = false := by rw [beq_eq_false_iff_ne]; omega
  clear hr
  go_enter Tryz.func105, Tryz.ntmps105
  go_wp2_with fail
  go_quiet ((first
    | (go_at_call 110; exact Calls.quiet_of_same ((trimRight_any b off l.length cap l _ hm hcap (HR.out.drewN _)).mono fun _ _ ⟨h1, h2⟩ => ⟨h1, h2.symm⟩))
    | (go_at_call 109; exact Calls.quiet_of_same ((trimLeft_any b off cap l _ hm hcap (HR.out.drewN _)).mono fun _ _ ⟨h1, h2⟩ => ⟨h1, h2.symm⟩))))
  go_wp2
  go_ret
  exact ⟨rfl, _, rfl⟩
theorem trim_none (A : Option Addr) (cap : Nat) (w : World) :
    Calls Tryz.prog 105 #[.slice A 0 cap, .string ⟨#[0]⟩] w fun e w' => e = .returned (.slice none 0 0) ∧ ∃ m, w' = w.drewN m := by
  go_enter Tryz.func105, Tryz.ntmps105
  go_wp2
  go_ret
  exact ⟨rfl, 0, rfl⟩

/-- What Trim hands back, whatever slice. -/
def trimA (A : Option Addr) (cap : Nat) (l : List UInt8) : Value :=
  if rn l = 0 then .slice none 0 0 else match A with | some a => .slice (some ⟨a.block, a.off + lz l, none⟩) (rn l - lz l) (cap - lz l) | none => .slice none 0 0
theorem trim_any (A : Option Addr) (len cap : Nat) (l : List UInt8) (w : World) (hm : len ≤ 140737488351232) (hcap : len ≤ cap) (hr : Rd w A len (bvs l)) :
    Calls Tryz.prog 105 #[.slice A len cap, .string ⟨#[0]⟩] w fun e w' => e = .returned (trimA A cap l) ∧ ∃ m, w' = w.drewN m := by
  have hl : l.length = len := by rw [← bvs_length, hr.1]
  subst hl
  rcases Nat.eq_zero_or_pos l.length with h0 | h0
  · obtain rfl : l = [] := List.eq_nil_of_length_eq_zero h0
    exact trim_none A cap w
  · obtain ⟨b, off, rfl, _⟩ := hr.2 h0
    exact trim_some b off cap l w hm hcap h0 hr
theorem run_sliceFrom {P : Program} (w : World) (t e : TypeId) (ht : P.underlying t = some (.slice e)) (hs : (P.info? e).map (·.size) = some 1) (A : Option Addr) (len cap k : Nat) (h : k ≤ len) :
    (Instr.sliceAt t (.slice A len cap) (some (.int .i64 (k : Int))) none none).run P w = .ok (.slice (if cap = k then A else A.map (·.add k)) (len - k) (cap - k)) w := by
  have hsz : (sizeOf e).run P w = .ok 1 w := by
    cases hq : P.info? e with
    | none => simp [hq] at hs
    | some i =>
      have h1 : i.size = 1 := by simpa [hq] using hs
      simp [sizeOf, typeInfo, hq, h1]
  have hk : (0 : Int) ≤ (k : Int) ∧ (k : Int) ≤ (len : Int) := by omega
  simp [Instr.sliceAt, Instr.slice, run_underlying ht, Instr.sliceBounds, Instr.sliceBound, asIntOf, hk, hsz]
  omega
theorem exec_sliceFrom {P : Program} {ρ : Operand → Value} {o : Oper} {w : World} (t e : TypeId) (x lo : Operand) (ho : o.op = .slice t x (some lo) none none) (A : Option Addr) (len cap k : Nat) (z : Int)
    (hx : ρ x = .slice A len cap) (hlo : ρ lo = .int .i64 z) (hz : z = (k : Int)) (ht : P.underlying t = some (.slice e)) (hs : (P.info? e).map (·.size) = some 1) (h : k ≤ len) :
    (execOp ρ o).run P w = .ok (.value (.slice (if cap = k then A else A.map (·.add k)) (len - k) (cap - k))) w := by
  subst hz
  have := run_sliceFrom (P := P) w t e ht hs A len cap k h
  unfold execOp
  simp only [ho, hx, Option.map_some, Option.map_none, hlo, Sem.run_bind, this, Result.andThen_ok, Sem.run_pure]
end Go.Proofs.YtchhiheoejchhaaGreatDoor
