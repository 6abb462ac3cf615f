/- The statements' own question first: is a page made and read? It is. -/
import Derived.Test.YtnkodmkoomifaaaDoorPageRef3
import Derived.Lib.SlBytesConst
namespace Go.Proofs.YtnkodmkoomifaaaDoor
open Go.RowKit

def ab : List UInt8 := [97, 98]
theorem ab_bvs : bvs ab = [.int .u8 97, .int .u8 98] := rfl
theorem ab_six : ¬ DecOk 6 (pageOf 5 ab) :=
  page_num_no 5 6 ab 7 (by omega) 6 (by decide) (by decide)
theorem sum_a : fnv fnv0 [97] = 12638187200555641996 := by decide +kernel

theorem rd_newF (w : World) (e : TypeId) (cs : List Value) (fr : Nat × Nat) : Rd (w.alloc (.cells cs.toArray e fr)) (some ⟨w.heap.size, 0, none⟩) cs.length cs := by
  refine ⟨rfl, fun _ => ⟨_, 0, rfl, fun j u hu => ?_⟩⟩
  rw [cell_of_row _ w.heap.size (0 + j) cs.toArray e fr (heap_alloc_new w _), Nat.zero_add]
  simpa using hu

set_option maxRecDepth 100000 in
set_option maxHeartbeats 2000000 in
theorem works_any (w : World) : Calls Tryd.prog 11 #[] w fun e w' => e = .returned (.bool true) ∧ Fr0 w w' := by
  have kc := fun (W : World) (C : Array Value) (n c : Nat) => Lib.run_convert_bytes_const (P := Tryd.prog) W 22 5 C n c Tryd.underlying22 Tryd.underlying5
  go_enter Tryd.func11, Tryd.ntmps11
  go_wp2_with fail
  refine (encode_ok 5 (some ⟨w.heap.size, 0, none⟩) 2 2 ab _ (by omega) (by omega) (rd_newF w 5 (bvs ab) (2, 3))).mono ?_
  rintro e w1 ⟨vp, rfl, ho, hf⟩
  have HF := Lib.hid ((Fr.refl (S := Nowhere) (w := w)).alloc _ |>.then0 hf)
  obtain ⟨Ap, cp, rfl, hcp, _, hrd, _⟩ := own_form ho
  have HRP := Lib.hid hrd
  clear ho hf hrd
  have HOK := Lib.hid (page_ok 5 ab (by decide))
  have HLO := Lib.hid ((page_long 5 ab (by decide)).trans (show ab.length = 2 from rfl))
  have HOU := Lib.hid (show outOf (pageOf 5 ab) = ab by unfold outOf; rw [HLO.out]; exact page_out 5 ab)
  have HSX := Lib.hid ab_six
  generalize pageOf 5 ab = pg at *
  go_wp2_with fail
  refine (decode_yes 5 Ap cp pg w1 (by omega) hcp HRP.out HOK.out).mono ?_
  rintro e w2 ⟨⟨vb, rfl, ho⟩, hf⟩
  rw [HLO.out, HOU.out] at ho
  obtain ⟨Ab, cb, rfl, _, _, hrd, _⟩ := own_form ho
  have HRB := Lib.hid hrd
  replace HF := Lib.hid (HF.out.then0 hf)
  replace HRP := Lib.hid (HRP.out.fr0 hf)
  clear ho hf hrd
  go_wp2_with fail
  refine (decode_no 6 Ap cp pg w2 (by omega) hcp HRP.out HSX.out).mono ?_
  rintro e w3 ⟨rfl, hf⟩
  have hc1 := run_str (P := Tryd.prog) w3 22 9 5 Tryd.underlying22 Tryd.underlying5 Tryd.underlying9 Ab 2 cb ab (HRB.out.fr0 hf)
  unfold str ab at hc1
  replace HF := Lib.hid (HF.out.then0 hf)
  clear hf
  go_wp2_with fail
  refine (sum_any (some ⟨w3.heap.size, 0, none⟩) 1 1 [97] _ (by omega) (rd_newF w3 5 (bvs [97]) (1, 2))).mono ?_
  rintro e w4 ⟨rfl, hf⟩
  replace HF := Lib.hid ((HF.out.alloc _).then0 hf)
  clear hf
  rw [sum_a]
  go_wp2
  go_ret
  exact ⟨rfl, HF.out⟩
end Go.Proofs.YtnkodmkoomifaaaDoor
