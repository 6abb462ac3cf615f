/- Plain words for a page: the sum of bytes, a number in eight bytes, a page; and how the walk's numbers read. No condition. -/
import Derived.Test.YtchhiheoejchhaaGreatDoorBase
namespace Go.Proofs.YtchhiheoejchhaaGreatDoor
open Go.RowKit

def M64 : Nat := 18446744073709551616
def fnv0 : Nat := 14695981039346656037
def fnv1 (s : Nat) (c : UInt8) : Nat := ((s ^^^ c.toNat) * 1099511628211) % M64
def fnv (s : Nat) (l : List UInt8) : Nat := l.foldl fnv1 s
theorem fnv1_lt (s : Nat) (c : UInt8) : fnv1 s c < M64 := Nat.mod_lt _ (by decide)
theorem fnv_lt (s : Nat) (hs : s < M64) (l : List UInt8) : fnv s l < M64 := by
  induction l generalizing s with
  | nil => exact hs
  | cons c l ih => exact ih _ (fnv1_lt s c)
theorem fnv_append (s : Nat) (a b : List UInt8) : fnv s (a ++ b) = fnv (fnv s a) b := List.foldl_append
theorem foldl_snoc {α β : Type} (f : β → α → β) (s : β) (l : List α) (k : Nat) (h : k < l.length) : List.foldl f s (l.take (k + 1)) = f (List.foldl f s (l.take k)) l[k] := by
  rw [List.take_succ_eq_append_getElem h, List.foldl_append]; rfl
theorem fnv_snoc (s : Nat) (l : List UInt8) (k : Nat) (h : k < l.length) : fnv s (l.take (k + 1)) = fnv1 (fnv s (l.take k)) l[k] := foldl_snoc fnv1 s l k h
/-- The walk's word for one step of the sum. -/
def walkStep (x : Int) (c : UInt8) : Int := IntKind.u64.wrap (bits BinOp.xor IntKind.u64 x (IntKind.u64.wrap (c.toNat : Int)) * 1099511628211)
theorem walkStep_eq (s : Nat) (c : UInt8) (hs : s < M64) : walkStep (s : Int) c = ((fnv1 s c : Nat) : Int) := by
  have hc : c.toNat < 256 := c.toNat_lt
  have hs' : s < 18446744073709551616 := hs
  unfold walkStep fnv1
  rw [show IntKind.u64.wrap (c.toNat : Int) = (c.toNat : Int) from by rw [IntKind.wrap_u64]; omega]
  rw [bits_xor_u64_nat s c.toNat hs' (by omega), IntKind.wrap_u64]
  show _ = ((((s ^^^ c.toNat) * 1099511628211) % 18446744073709551616 : Nat) : Int)
  omega
def be8 (n : Nat) : List UInt8 := (List.range 8).map fun i => UInt8.ofNat (n >>> (56 - 8 * i))
theorem be8_length (n : Nat) : (be8 n).length = 8 := by simp [be8]

theorem toNat_ofNat8 (x : Nat) : ((UInt8.ofNat x).toNat : Int) = (x : Int) % 256 := by
  rw [UInt8.toNat_ofNat']; omega
theorem be8_at (n k : Nat) (h : k < 8) : (be8 n)[k]? = some (UInt8.ofNat (n >>> (56 - 8 * k))) := by
  simp [be8, h]
/-- The row of zeros that is filled from the left, one byte on. -/
theorem fill_set (l : List UInt8) (m k : Nat) (hm : l.length = m) (hk : k < m) (c : UInt8) (hc : l[k]? = some c) :
    (bvs (l.take k) ++ List.replicate (m - k) (Value.int .u8 0)).set k (bv c) = bvs (l.take (k + 1)) ++ List.replicate (m - (k + 1)) (.int .u8 0) := by
  have hkl : k < l.length := by omega
  obtain rfl : l[k] = c := by simpa [List.getElem?_eq_getElem hkl] using hc
  have hl : (bvs (l.take k)).length = k := by rw [bvs_length, List.length_take]; omega
  rw [List.set_append_right _ _ (by omega), hl, Nat.sub_self, show m - k = (m - (k + 1)) + 1 from by omega, List.replicate_succ, List.set_cons_zero,
    List.take_succ_eq_append_getElem hkl, bvs_append]
  simp [bvs]
theorem be8_set (n k : Nat) (h : k < 8) :
    (bvs ((be8 n).take k) ++ List.replicate (8 - k) (Value.int .u8 0)).set k (.int .u8 ((n : Int) / 2 ^ (56 - 8 * k) % 256)) = bvs ((be8 n).take (k + 1)) ++ List.replicate (8 - (k + 1)) (.int .u8 0) := by
  rw [← fill_set (be8 n) 8 k (be8_length n) h _ (be8_at n k h)]
  congr 1
  unfold bv
  rw [toNat_ofNat8, Nat.shiftRight_eq_div_pow]
  simp

/-- What stands behind a page's sum. -/
def tailOf (b : List UInt8) : List UInt8 := UInt8.ofNat (b.length / 256) :: UInt8.ofNat b.length :: (b ++ List.replicate (502 - b.length) 0)
def pageSum (n : Nat) (t : List UInt8) : Nat := fnv (fnv fnv0 (be8 n)) t
def pageOf (n : Nat) (b : List UInt8) : List UInt8 := be8 (pageSum n (tailOf b)) ++ tailOf b
theorem tailOf_length (b : List UInt8) (h : b.length ≤ 502) : (tailOf b).length = 504 := by simp [tailOf]; omega
theorem pageOf_length (n : Nat) (b : List UInt8) (h : b.length ≤ 502) : (pageOf n b).length = 512 := by
  simp [pageOf, be8_length, tailOf_length b h]
theorem fnv0_lt : fnv0 < M64 := by decide
theorem pageSum_lt (n : Nat) (t : List UInt8) : pageSum n t < M64 := fnv_lt _ (fnv_lt _ fnv0_lt _) _
end Go.Proofs.YtchhiheoejchhaaGreatDoor
