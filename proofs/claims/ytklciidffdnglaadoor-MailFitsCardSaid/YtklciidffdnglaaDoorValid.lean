/- unicode/utf8.ValidString by the shelf's contract, and word.UTF8. Condition: the tables of unicode/utf8 are as they are laid. -/
import Derived.Test.YtklciidffdnglaaDoorUtf
import Derived.Test.YtklciidffdnglaaDoorUtfEq
import Derived.Test.YtklciidffdnglaaDoorTab
import Derived.Test.YtklciidffdnglaaDoorStr2
import Derived.Shelf.Unicode.ValidAny
namespace Go.Proofs.YtklciidffdnglaaDoor
open Go.RowKit Go.Shelf

def uRen : Ren := ⟨fun n => if n = 196 then 21 else 23,
  fun n => if n = 0 then 0 else if n = 3 then 3 else if n = 4 then 4 else if n = 5 then 5 else if n = 9 then 9 else if n = 12 then 12 else if n = 46 then 57 else if n = 53 then 60 else if n = 119 then 46 else if n = 138 then 55 else 56,
  fun n => if n = 3 then 0 else 1⟩
set_option maxRecDepth 100000 in
theorem uLays : Lays.n196 Tryd.prog uRen where
  mixed := hmix
  f196 := by kernel_rfl
  f259 := by kernel_rfl
  t0 := Tryd.underlying0
  a0 := Tryd.isAgg0
  z0 := Tryd.sizeOf0
  v0 := Tryd.zeroValue0
  t3 := Tryd.underlying3
  a3 := Tryd.isAgg3
  z3 := Tryd.sizeOf3
  v3 := Tryd.zeroValue3
  t4 := Tryd.underlying4
  a4 := Tryd.isAgg4
  z4 := Tryd.sizeOf4
  v4 := Tryd.zeroValue4
  t5 := Tryd.underlying5
  a5 := Tryd.isAgg5
  z5 := Tryd.sizeOf5
  v5 := Tryd.zeroValue5
  t9 := Tryd.underlying9
  a9 := Tryd.isAgg9
  z9 := Tryd.sizeOf9
  v9 := Tryd.zeroValue9
  t12 := Tryd.underlying12
  a12 := Tryd.isAgg12
  z12 := Tryd.sizeOf12
  v12 := Tryd.zeroValue12
  t46 := Tryd.underlying57
  a46 := Tryd.isAgg57
  z46 := Tryd.sizeOf57
  v46 := Tryd.zeroValue57
  t53 := Tryd.underlying60
  a53 := Tryd.isAgg60
  z53 := Tryd.sizeOf60
  v53 := Tryd.zeroValue60
  t119 := Tryd.underlying46
  a119 := Tryd.isAgg46
  z119 := Tryd.sizeOf46
  t138 := Tryd.underlying55
  a138 := Tryd.isAgg55
  z138 := Tryd.sizeOf55
  v138 := Tryd.zeroValue55
  t139 := Tryd.underlying56
  a139 := Tryd.isAgg56
  z139 := Tryd.sizeOf56
  v139 := Tryd.zeroValue56
  g3 := by kernel_rfl
  g4 := by kernel_rfl
theorem first_list : (firstZ.map fun z => Value.int .u8 z) = (List.range 256).map fun c => Value.int .u8 (Go.Lib.firstT c : Int) := by kernel_rfl
theorem ranges_list : (pairsZ.flatMap fun z => [Value.int .u8 z.1, Value.int .u8 z.2]) = (List.range 32).map fun j => Value.int .u8 (if j % 2 = 0 then (Go.Lib.accLo (j / 2) : Int) else (Go.Lib.accHi (j / 2) : Int)) := by kernel_rfl
theorem Laid.tabs {w : World} (h : Laid w utfL) : Go.Lib.Utf8Tabs 0 1 w := by
  obtain ⟨el, fz, h1⟩ := h _ (List.mem_cons_self)
  obtain ⟨el', fz', h2⟩ := h _ (List.mem_cons_of_mem _ List.mem_cons_self)
  simp only at h1 h2
  rw [first_list] at h1
  rw [ranges_list] at h2
  refine ⟨fun c hc => ?_, fun i hi => ⟨?_, ?_⟩⟩
  · simp [World.cell?, h1, hc]
  · have e1 : 2 * i % 2 = 0 := by omega
    have e2 : 2 * i / 2 = i := by omega
    have e3 : 2 * i < 32 := by omega
    simp [World.cell?, h2, e1, e2, e3]
  · have e1 : (2 * i + 1) % 2 = 1 := by omega
    have e2 : (2 * i + 1) / 2 = i := by omega
    have e3 : 2 * i + 1 < 32 := by omega
    simp [World.cell?, h2, e1, e2, e3]
theorem Laid.fr {w w' : World} {L : List (Nat × List Value)} (h : Laid w L) (hf : Fr0 w w') : Laid w' L := fun p hp => by
  obtain ⟨el, fz, h1⟩ := h p hp
  exact ⟨el, fz, (hf.block _ (Array.getElem?_eq_some_iff.1 h1).1 (fun hh => hh)).trans h1⟩
theorem Fr0.of_below {w w' : World} (h : Below w.heap.size w w') : Fr0 w w' := ⟨h.os, h.tape, h.output, h.size, fun k hk _ => h.block k hk⟩
theorem valid_ok (l : List UInt8) (w : World) (hm : (l.length : Int) < 4611686018427387904) (hT : Laid w utfL) : Calls Tryd.prog 21 #[str l] w fun e w' => e = .returned (.bool (utf l)) ∧ Fr0 w w' := by
  have hs : (ByteArray.mk l.toArray).size = l.length := by show l.toArray.size = _; simp
  have h := Any.utf8_ValidString uLays ⟨l.toArray⟩ w (by omega) hT.tabs
  refine h.mono fun e w' ⟨he, hb⟩ => ⟨?_, Fr0.of_below hb⟩
  rw [he]
  have : (ByteArray.mk l.toArray).data.toList = l := rfl
  rw [this, utf_eq l.length l (Nat.le_refl _)]
set_option maxHeartbeats 4000000 in
theorem wordUtf_ok (l : List UInt8) (w : World) (hm : (l.length : Int) < 4611686018427387904) (hT : Laid w utfL) : Calls Tryd.prog 19 #[str l] w fun e w' => e = .returned (.bool (utf l)) ∧ Fr0 w w' := by
  refine sx_enter (vs := [_]) Tryd.func19 rfl Tryd.ntmps19 rfl ?_
  refine sx_seq ?_
  refine sx_region ?_
  refine sxl_y (wn_none rfl) rfl rfl (yp rfl) ?_
  refine sxl_nil ?_
  refine qx_seq ?_
  refine sx_seq ?_
  refine sx_region ?_
  refine sxl_y (wn_none rfl) rfl rfl (yp rfl) ?_
  refine sxl_call (some 4) (by first | exact wn_none rfl | exact wn_on rfl rfl rfl) rfl rfl (yc_call rfl rfl Tryd.call21) (valid_ok l _ hm hT) ?_
  rintro _ w1 ⟨rfl, hf1⟩
  refine ⟨_, rfl, ?_⟩
  refine sxl_y (wn_none rfl) rfl rfl (yp rfl) ?_
  refine sxl_nil ?_
  refine qx_seq ?_
  refine sx_ret ?_
  refine qx_ret1 rfl rfl ?_
  exact ⟨rfl, hf1⟩
end Go.Proofs.YtklciidffdnglaaDoor
