/- DiskLasts, plainly: what a crash leaves of sectors that are full of one byte. No program here. -/
import Derived.Test.YtbfeailalhddgaaDisk6
namespace Go.Proofs.Ytbfeailalhddgaa
open Go.RowKit

def full (c : UInt8) : List UInt8 := List.replicate 128 c
/-- A sector: its first c bytes are h, the others t. -/
def mix (c : Nat) (h t : UInt8) : List UInt8 := List.replicate c h ++ List.replicate (128 - c) t
theorem mix_zero (h t : UInt8) : mix 0 h t = full t := rfl
theorem mix_at (c : Nat) (h t : UInt8) (hc : c ≤ 128) (j : Nat) (hj : j < 128) : (mix c h t)[j]? = some (if j < c then h else t) := by
  unfold mix
  by_cases h1 : j < c
  · rw [if_pos h1, List.getElem?_append_left (by simpa using h1), List.getElem?_replicate, if_pos h1]
  · rw [if_neg h1, List.getElem?_append_right (by simp; omega), List.length_replicate, List.getElem?_replicate, if_pos (by omega)]
theorem mix_length (c : Nat) (h t : UInt8) (hc : c ≤ 128) : (mix c h t).length = 128 := by simp [mix]; omega

/-- A write of the law: where, what. -/
abbrev Wt := UInt8 × UInt8
def wfull (p : Wt) : Nat × List UInt8 := (p.1.toNat, full p.2)
def setAll : List Wt → List UInt8 → List UInt8
  | [], l => l
  | p :: ps, l => setAll ps (l.set p.1.toNat p.2)
theorem setAll_length : ∀ (ps : List Wt) (l : List UInt8), (setAll ps l).length = l.length
  | [], _ => rfl
  | p :: ps, l => by rw [setAll, setAll_length, List.length_set]
theorem flush_full : ∀ (ps : List Wt) (l : List UInt8), flushAll (ps.map wfull) (l.map full) = (setAll ps l).map full
  | [], _ => rfl
  | p :: ps, l => by
    rw [List.map_cons, flushAll, setAll, ← flush_full ps, List.map_set]
    rfl

structure Tr where
  cut : Nat
  head : UInt8
  tail : UInt8
/-- What the law keeps of sector i, write by write. -/
def trOne (keep : List Bool) (torn : Int) (cut i k : Nat) (p : Wt) (x : Tr) : Tr :=
  if p.1.toNat ≠ i then x else if (k : Int) = torn then ⟨cut, p.2, x.tail⟩ else if keep.getD k false then ⟨0, p.2, p.2⟩ else x
def trFrom (keep : List Bool) (torn : Int) (cut i : Nat) : Nat → List Wt → Tr → Tr
  | _, [], x => x
  | k, p :: ps, x => trFrom keep torn cut i (k + 1) ps (trOne keep torn cut i k p x)
theorem trOne_cut (keep : List Bool) (torn : Int) (cut i k : Nat) (p : Wt) (x : Tr) (hc : cut ≤ 128) (hx : x.cut ≤ 128) : (trOne keep torn cut i k p x).cut ≤ 128 := by
  unfold trOne
  split
  · exact hx
  · split
    · exact hc
    · split
      · exact Nat.zero_le _
      · exact hx
theorem crash_tr (keep : List Bool) (torn : Int) (cut i : Nat) (hc : cut ≤ 128) : ∀ (ps : List Wt) (k : Nat) (l : List (List UInt8)) (x : Tr), x.cut ≤ 128 → ((k : Int) ≤ torn → x.cut = 0) → l[i]? = some (mix x.cut x.head x.tail) →
    (trFrom keep torn cut i k ps x).cut ≤ 128 ∧ (crashFrom keep torn cut k (ps.map wfull) l)[i]? = some (mix (trFrom keep torn cut i k ps x).cut (trFrom keep torn cut i k ps x).head (trFrom keep torn cut i k ps x).tail)
  | [], _, _, x, hx, _, hl => ⟨hx, hl⟩
  | p :: ps, k, l, x, hx, ht, hl => by
    rw [List.map_cons, crashFrom, trFrom]
    have hil : i < l.length := (List.getElem?_eq_some_iff.1 hl).1
    have hgd : l.getD i [] = mix x.cut x.head x.tail := by rw [List.getD_eq_getElem?_getD, hl]; rfl
    refine crash_tr keep torn cut i hc ps (k + 1) _ _ (trOne_cut _ _ _ _ _ _ _ hc hx) ?_ ?_
    · intro h
      unfold trOne
      split
      · exact ht (by omega)
      · rw [if_neg (by omega)]
        split
        · rfl
        · exact ht (by omega)
    · by_cases hp : p.1.toNat = i
      · by_cases hk : (k : Int) = torn
        · have h0 := ht (by omega)
          have e : trOne keep torn cut i k p x = ⟨cut, p.2, x.tail⟩ := by unfold trOne; rw [if_neg (by simpa using hp), if_pos hk]
          have e2 : crashOne keep torn cut k (wfull p) l = l.set i ((full p.2).take cut ++ (l.getD i []).drop cut) := by unfold crashOne; rw [if_pos hk]; show l.set p.1.toNat _ = _; rw [← hp]; rfl
          rw [e, e2, List.getElem?_set_self hil, hgd, h0, mix_zero]
          simp only [full, mix, List.take_replicate, List.drop_replicate, Nat.min_eq_left hc]
        · by_cases hq : keep.getD k false = true
          · have e : trOne keep torn cut i k p x = ⟨0, p.2, p.2⟩ := by unfold trOne; rw [if_neg (by simpa using hp), if_neg hk, if_pos hq]
            have e2 : crashOne keep torn cut k (wfull p) l = l.set i (full p.2) := by unfold crashOne; rw [if_neg hk, if_pos hq]; show l.set p.1.toNat _ = _; rw [hp]; rfl
            rw [e, e2, List.getElem?_set_self hil]
            rfl
          · have e : trOne keep torn cut i k p x = x := by unfold trOne; rw [if_neg (by simpa using hp), if_neg hk, if_neg hq]
            have e2 : crashOne keep torn cut k (wfull p) l = l := by unfold crashOne; rw [if_neg hk, if_neg hq]
            rw [e, e2]
            exact hl
      · have e : trOne keep torn cut i k p x = x := by unfold trOne; rw [if_pos hp]
        have hne : ∀ b, (l.set p.1.toNat b)[i]? = l[i]? := fun b => List.getElem?_set_ne hp
        rw [e]
        unfold crashOne
        split
        · show (l.set p.1.toNat _)[i]? = _
          rw [hne]; exact hl
        · split
          · show (l.set p.1.toNat _)[i]? = _
            rw [hne]; exact hl
          · exact hl
end Go.Proofs.Ytbfeailalhddgaa
