/- page.Encode in the machine, by its contract. No condition. -/
import Derived.Test.YtchhiheoejchhaaGreatDoorKr
import Derived.Test.YtchhiheoejchhaaGreatDoorPgDecode
namespace Go.Proofs.YtchhiheoejchhaaGreatDoor
open Go.RowKit

/-- Bytes of cells. -/
noncomputable def rdB : List Value → Option (List UInt8)
  | [] => some []
  | .int .u8 (.ofNat n) :: r => bo (Nat.blt n 256) (oo (rdB r) none (fun l => some (UInt8.ofNat n :: l))) none
  | _ :: _ => none
theorem rdB_ok : ∀ {l : List Value} {bs : List UInt8}, rdB l = some bs → l = bvs bs
  | [], bs, h => by injection h with h; subst h; rfl
  | v :: r, bs, h => by
    unfold rdB at h
    split at h
    · rename_i h1; cases h1
    · rename_i n r' h1
      injection h1 with h1 h2; subst h1; subst h2
      obtain ⟨hn, h⟩ := bo_inv h (by simp)
      obtain ⟨l, hl, h⟩ := oo_inv h (by simp)
      injection h with h; subst h
      have hn := blt_lt hn
      rw [rdB_ok hl]
      have : bv (UInt8.ofNat n) = .int .u8 (.ofNat n) := by
        unfold bv
        rw [UInt8.toNat_ofNat', Nat.mod_eq_of_lt (by simpa using hn)]
        rfl
      show _ = bv (UInt8.ofNat n) :: bvs l
      rw [this]
    · cases h
theorem bv_scal (c : UInt8) {σ : Sg} {x : Value} (h : VR σ (bv c) x) : x = bv c := h.scal_inv rfl
def isOpen : Option Addr → Bool
  | some ⟨_, _, some _⟩ => true
  | _ => false
/-- A slice of bytes, read. -/
theorem rd_of {G nx : Nat} {σ : Sg} {h : Hp} {w : World} (m : MR G σ h.get nx w) {a : Option Addr} {len cap : Nat} {u : Value} {cs : List Value} {bs : List UInt8} (hu : VR σ (.slice a len cap) u) (hs : srcCells h 1 len (.slice a len cap) = some cs) (hb : rdB cs = some bs) :
    ∃ A c', u = .slice A len c' ∧ Rd w A len (bvs bs) ∧ (len ≤ c' ∨ (c' = cap ∧ isOpen a = false)) := by
  have hcs := rdB_ok hb
  unfold srcCells at hs
  cases a with
  | none =>
    obtain ⟨hn, hs⟩ := bo_inv hs (by simp)
    obtain rfl := Nat.eq_of_beq_eq_true hn
    injection hs with hs; subst hs
    rw [← hcs]
    exact ⟨none, cap, hu.scal_inv rfl, Rd.nil, .inr ⟨rfl, rfl⟩⟩
  | some a =>
    obtain ⟨id, off, sp⟩ := a
    obtain ⟨_, hs⟩ := bo_inv (show bo (Nat.ble len len) _ none = some cs from hs) (by simp)
    split at hs
    · rename_i el n k c hblk
      rw [Nat.mul_one] at hs
      have hlen := ldN_length c len off hs
      have key : ∀ L, σ id = some L → Rd w (some ⟨L.blk, L.base + off, none⟩) len (bvs bs) := fun L hL => by
        rw [← hcs]
        refine ⟨hlen, fun _ => ⟨L.blk, L.base + off, rfl, fun j x hj => ?_⟩⟩
        have hjl : j < len := by rw [← hlen]; exact (List.getElem?_eq_some_iff.1 hj).1
        have hg := ldN_get c len off hs j hjl
        rw [hj] at hg
        obtain ⟨x', h1, h2⟩ := m.cell hblk hL hg
        have hx : x ∈ bvs bs := by rw [← hcs]; exact List.mem_of_getElem? hj
        obtain ⟨b, _, rfl⟩ := List.mem_map.1 hx
        rw [bv_scal b h2] at h1
        rw [Nat.add_assoc]; exact h1
      cases sp with
      | none =>
        obtain ⟨L, hL, rfl⟩ := hu.sl_inv
        exact ⟨_, _, rfl, key L hL, .inr ⟨rfl, rfl⟩⟩
      | some z =>
        cases hu with
        | sc _ hs _ => cases hs
        | slo hL hle _ _ => exact ⟨_, _, rfl, key _ hL, .inl hle⟩
        | sle hL _ _ => exact ⟨_, _, rfl, ⟨by rw [← hcs]; exact hlen, fun h => absurd h (by omega)⟩, .inl (Nat.zero_le _)⟩
    · obtain ⟨hn, hs⟩ := bo_inv hs (by simp)
      obtain rfl := Nat.eq_of_beq_eq_true hn
      injection hs with hs; subst hs
      rw [← hcs]
      cases sp with
      | none =>
        obtain ⟨L, hL, rfl⟩ := hu.sl_inv
        exact ⟨_, _, rfl, Rd.nil, .inr ⟨rfl, rfl⟩⟩
      | some z =>
        obtain ⟨L, A, c', hL, rfl, _⟩ := hu.slice_any
        exact ⟨_, _, rfl, Rd.nil, .inl (Nat.zero_le _)⟩
/-- The sum, byte by byte, each looked at. -/
noncomputable def fnvS {β : Type} (l : List UInt8) : Nat → (Nat → β) → β :=
  @List.rec UInt8 (fun _ => Nat → (Nat → β) → β) (fun s f => f s) (fun c _ ih s f => natS (Nat.mod (Nat.mul (Nat.xor s c.toNat) 1099511628211) 18446744073709551616) (fun s => ih s f)) l
theorem fnvS_eq {β : Type} : ∀ (l : List UInt8) (s : Nat) (f : Nat → β), fnvS l s f = f (fnv s l)
  | [], _, _ => rfl
  | c :: l, s, f => by
    show natS (Nat.mod (Nat.mul (Nat.xor s c.toNat) 1099511628211) 18446744073709551616) (fun s => fnvS l s f) = _
    rw [natS_eq, fnvS_eq l]
    rfl
noncomputable def sumS {β : Type} (n : Nat) (t : List UInt8) (f : Nat → β) : β := fnvS (be8 n) fnv0 (fun s => fnvS t s f)
theorem sumS_eq {β : Type} (n : Nat) (t : List UInt8) (f : Nat → β) : sumS n t f = f (pageSum n t) := by
  unfold sumS; rw [fnvS_eq, fnvS_eq]; rfl
/-- page.Encode, where it makes a page; all else is left to another. -/
noncomputable def encK (rest : CallF) : CallF := fun f args h nx =>
  bo (Nat.beq f 88) (match args with
    | [.int .i64 (.ofNat n), .slice a len cap] => oo (srcCells h 1 len (.slice a len cap)) (rest f args h nx) (fun cs => oo (rdB cs) (rest f args h nx) (fun bs =>
      bo (Nat.ble n 16383 && Nat.ble len 502) (sumS n (tailOf bs) (fun s => newB h nx (.cells 5 (bvs (be8 s ++ tailOf bs)).length 0 (Tb.of (bvs (be8 s ++ tailOf bs)))) (.tuple ⟨[.slice (some ⟨nx, 0, some 1⟩) 512 0, .int .i64 0]⟩))) (rest f args h nx)))
    | _ => rest f args h nx) (rest f args h nx)
theorem encK_ok {G : Nat} {rest : CallF} (hr : CallOk Tryz.prog G rest) : CallOk Tryz.prog G (encK rest) := by
  intro f args h nx v h' nx' hm σ w us hv m
  have old : rest f args h nx = .ok v h' nx' → Calls Tryz.prog f ⟨us⟩ w fun x w' => ∃ σ' u, x = .returned u ∧ VR σ' v u ∧ Tr G σ h.get nx w σ' h'.get nx' w' := fun hm => hr f args h nx v h' nx' hm σ w us hv m
  unfold encK at hm
  cases hq : Nat.beq f 88 with
  | false => rw [hq] at hm; exact old hm
  | true =>
    rw [hq, bo_true] at hm
    obtain rfl := Nat.eq_of_beq_eq_true hq
    split at hm
    · rename_i n a len cap
      cases hs : srcCells h 1 len (.slice a len cap) with
      | none => rw [hs] at hm; exact old hm
      | some cs =>
        rw [hs, oo_some] at hm
        cases hb : rdB cs with
        | none => rw [hb] at hm; exact old hm
        | some bs =>
          rw [hb, oo_some] at hm
          cases hc : (Nat.ble n 16383 && Nat.ble len 502) with
          | false => rw [hc] at hm; exact old hm
          | true =>
            rw [hc, bo_true] at hm
            simp only [Bool.and_eq_true] at hc
            have h1 := Nat.le_of_ble_eq_true hc.1
            have h2 := Nat.le_of_ble_eq_true hc.2
            rw [sumS_eq, show be8 (pageSum n (tailOf bs)) ++ tailOf bs = pageOf n bs from rfl] at hm
            obtain ⟨rfl, rfl, rfl⟩ := newB_inv hm
            obtain ⟨x, us', rfl, hx, hv⟩ := hv.inv
            obtain ⟨y, us', rfl, hy, hv⟩ := hv.inv
            obtain rfl := hv.inv_nil
            obtain rfl := hx.scal_inv rfl
            obtain ⟨A, c', rfl, hrd, _⟩ := rd_of m hy hs hb
            refine (encode_ok n A len c' bs w h1 h2 hrd).mono fun x w' ⟨u, hx, ho, hf⟩ => ?_
            have hvs : VRs σ (bvs (pageOf n bs)) (bvs (pageOf n bs)) := VRs.of_get rfl fun i x hx => ⟨x, hx, by
              obtain ⟨b, _, rfl⟩ := List.mem_map.1 (List.mem_of_getElem? hx)
              exact VR.int⟩
            obtain ⟨σ', h3, h4⟩ := own_adopt m hf (by omega) ho hvs
            exact ⟨σ', _, hx, .tuple (xs := [_, _]) (ys := [_, _]) (.cons h3 (.cons VR.int .nil)) .nil, h4⟩
    · exact old hm
/-- A page that is in order. -/
noncomputable def pgOk (n : Nat) (p : List UInt8) : Bool :=
  sumS n (p.drop 8) (fun s => byEq (be8 s ++ p.drop 8) p) && (p.drop (10 + longOf p)).all fun c => Nat.beq c.toNat 0
theorem pgOk_inv {n : Nat} {p : List UInt8} (h : pgOk n p = true) : be8 (pageSum n (p.drop 8)) ++ p.drop 8 = p ∧ ∀ c ∈ p.drop (10 + longOf p), c = 0 := by
  unfold pgOk at h
  rw [sumS_eq, Bool.and_eq_true, byEq_ok, List.all_eq_true] at h
  refine ⟨by simpa using h.1, fun c hc => ?_⟩
  have := Nat.eq_of_beq_eq_true (h.2 c hc)
  exact UInt8.toNat_inj.1 this
/-- page.Decode, where the page is in order and not empty; all else is left to another. -/
noncomputable def decK (rest : CallF) : CallF := fun f args h nx =>
  bo (Nat.beq f 94) (match args with
    | [.int .i64 (.ofNat n), .slice a len cap] => oo (srcCells h 1 len (.slice a len cap)) (rest f args h nx) (fun cs => oo (rdB cs) (rest f args h nx) (fun bs =>
      bo (Nat.ble n 16383 && (Nat.beq len 512 && ((isOpen a || Nat.ble len cap) && (Nat.blt 0 (longOf bs) && (Nat.ble (longOf bs) 502 && pgOk n bs)))))
        (newB h nx (.cells 5 (bvs ((bs.drop 10).take (longOf bs))).length 0 (Tb.of (bvs ((bs.drop 10).take (longOf bs))))) (.tuple ⟨[.slice (some ⟨nx, 0, some 1⟩) (longOf bs) 0, .int .i64 0]⟩)) (rest f args h nx)))
    | _ => rest f args h nx) (rest f args h nx)
theorem decK_ok {G : Nat} {rest : CallF} (hr : CallOk Tryz.prog G rest) : CallOk Tryz.prog G (decK rest) := by
  intro f args h nx v h' nx' hm σ w us hv m
  have old : rest f args h nx = .ok v h' nx' → Calls Tryz.prog f ⟨us⟩ w fun x w' => ∃ σ' u, x = .returned u ∧ VR σ' v u ∧ Tr G σ h.get nx w σ' h'.get nx' w' := fun hm => hr f args h nx v h' nx' hm σ w us hv m
  unfold decK at hm
  cases hq : Nat.beq f 94 with
  | false => rw [hq] at hm; exact old hm
  | true =>
    rw [hq, bo_true] at hm
    obtain rfl := Nat.eq_of_beq_eq_true hq
    split at hm
    · rename_i n a len cap
      cases hs : srcCells h 1 len (.slice a len cap) with
      | none => rw [hs] at hm; exact old hm
      | some cs =>
        rw [hs, oo_some] at hm
        cases hb : rdB cs with
        | none => rw [hb] at hm; exact old hm
        | some bs =>
          rw [hb, oo_some] at hm
          cases hc : (Nat.ble n 16383 && (Nat.beq len 512 && ((isOpen a || Nat.ble len cap) && (Nat.blt 0 (longOf bs) && (Nat.ble (longOf bs) 502 && pgOk n bs))))) with
          | false => rw [hc] at hm; exact old hm
          | true =>
            rw [hc, bo_true] at hm
            simp only [Bool.and_eq_true] at hc
            have h1 := Nat.le_of_ble_eq_true hc.1
            obtain rfl := Nat.eq_of_beq_eq_true hc.2.1
            have h3 := hc.2.2.1
            have h4 := blt_lt hc.2.2.2.1
            have h5 := Nat.le_of_ble_eq_true hc.2.2.2.2.1
            obtain ⟨h6, h7⟩ := pgOk_inv hc.2.2.2.2.2
            obtain ⟨rfl, rfl, rfl⟩ := newB_inv hm
            obtain ⟨x, us', rfl, hx, hv⟩ := hv.inv
            obtain ⟨y, us', rfl, hy, hv⟩ := hv.inv
            obtain rfl := hv.inv_nil
            obtain rfl := hx.scal_inv rfl
            obtain ⟨A, c', rfl, hrd, hcap⟩ := rd_of m hy hs hb
            have hcap : 512 ≤ c' := by
              rcases hcap with hcap | ⟨rfl, ho⟩
              · exact hcap
              · rw [ho, Bool.false_or] at h3; exact Nat.le_of_ble_eq_true h3
            obtain ⟨b, off, rfl, _⟩ := hrd.2 (by omega)
            have hp : bs.length = 512 := by rw [← bvs_length, hrd.1]
            refine (decode_ok n b off c' bs w h1 hp hcap hrd ⟨h5, h6, h7⟩).mono fun x w' ⟨⟨u, hx, ho⟩, hf⟩ => ?_
            have hvs : VRs σ (bvs ((bs.drop 10).take (longOf bs))) (bvs ((bs.drop 10).take (longOf bs))) := VRs.of_get rfl fun i x hx => ⟨x, hx, by
              obtain ⟨b, _, rfl⟩ := List.mem_map.1 (List.mem_of_getElem? hx)
              exact VR.int⟩
            obtain ⟨σ', h8, h9⟩ := own_adopt m hf h4 ho hvs
            exact ⟨σ', _, hx, .tuple (xs := [_, _]) (ys := [_, _]) (.cons h8 (.cons VR.int .nil)) .nil, h9⟩
    · exact old hm
end Go.Proofs.YtchhiheoejchhaaGreatDoor
