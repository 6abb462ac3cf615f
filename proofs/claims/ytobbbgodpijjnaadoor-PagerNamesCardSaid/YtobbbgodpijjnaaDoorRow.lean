/- A slice of bytes that came in, as the walks take it. -/
import Derived.Test.YtobbbgodpijjnaaDoorBase
import Derived.Test.YtobbbgodpijjnaaDoorProg
import Derived.ProofKit
import Derived.OpenShut
import Derived.SizedLaws
namespace Go.Proofs.YtobbbgodpijjnaaDoor
open Go.ChangeShapes Go.WideShapes Go.ChangeAt Go.RowKit

theorem own : ownKnob Tryd.prog.godebug = none := by kernel_rfl
theorem laidOut : laidOutB Tryd.prog = true := by kernel_rfl
theorem bytes_byte : Tryd.prog.bytesOf 5 = 1 := by kernel_rfl

/-- A slice of bytes that came in: it reads as the bytes l; it takes at most cap bytes. -/
def InBytes (w : World) (a : Option Addr) (len cap : Nat) (l : List UInt8) : Prop :=
  Rd w a len (bvs l) ∧ len ≤ cap ∧ cap ≤ 140737488351232 ∧ (a = none → cap = 0)

theorem inBytes {H : Type} {enc : TypeId × Value → H} {W : World} {a : Option Addr} {len cap fuel : Nat} {d : DataW H} {p : List MemPlace}
    (hf : DataW.trod enc Tryd.prog W 0 (fun _ => true) true fuel 28 (Value.slice a len cap).cells.toList = some (d, p))
    (hz : ∀ elems spare, d = .slice elems spare → (elems.length + spare.length) * Tryd.prog.bytesOf 5 ≤ reachBytes) :
    ∃ l, InBytes W a len cap l := by
  rcases open_ints Tryd.underlying28 Tryd.underlying5 (by kernel_rfl) hf with ⟨hcs, _⟩ | ⟨x, l, c, zs, hcs, _, hl, hm, hzl, hd, hcell, hwz⟩
  · simp [Value.cells] at hcs
    obtain ⟨rfl, rfl, rfl⟩ := hcs
    exact ⟨[], Rd.nil, Nat.le_refl _, Nat.zero_le _, fun _ => rfl⟩
  · simp [Value.cells] at hcs
    obtain ⟨rfl, rfl, rfl⟩ := hcs
    simp only [if_true] at hzl
    injection hd with hd1 hd2
    have hw := hz _ _ hd1
    rw [bytes_byte] at hw
    simp only [lits, List.length_map, List.length_take, List.length_drop, reachBytes] at hw
    refine ⟨(zs.take len).map (fun z => UInt8.ofNat z.toNat), ⟨by rw [bvs_length]; simp; omega, fun h0 => ?_⟩, hl, by omega, by simp⟩
    obtain ⟨b, off, sp⟩ := x
    have hsp : sp = none := by
      have := hcell 0 (by omega)
      cases sp with
      | none => rfl
      | some s =>
        exfalso
        simp only [Addr.add, if_true, World.cell?] at this
        split at this <;> simp at this
    subst hsp
    refine ⟨b, off, rfl, fun j u hu => ?_⟩
    have hj : j < len ∧ j < zs.length := by
      have := (List.getElem?_eq_some_iff.1 hu).1
      rw [bvs_length] at this
      simp at this; omega
    have hc := hcell j hj.2
    rw [Addr.add_mid] at hc
    rw [hc]
    have hzj : zs.getD j 0 = zs[j] := by simp [List.getD, List.getElem?_eq_getElem hj.2]
    have hwf := hwz zs[j] (List.getElem_mem hj.2)
    have hb : 0 ≤ zs[j] ∧ zs[j] ≤ 255 := bounds_u8 hwf
    rw [bvs_getElem?, List.getElem?_map, List.getElem?_take, if_pos hj.1, List.getElem?_eq_getElem hj.2] at hu
    simp only [Option.map_some, Option.some.injEq] at hu
    rw [← hu, hzj]
    unfold bv
    congr 2
    rw [UInt8.toNat_ofNat']
    omega
end Go.Proofs.YtobbbgodpijjnaaDoor
