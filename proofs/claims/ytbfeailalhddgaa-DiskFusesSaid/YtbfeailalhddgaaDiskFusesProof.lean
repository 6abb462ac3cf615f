/- DiskFuses: for every slice of writes, every number and every plan the law returns true, and what came in reads as it did. No condition. -/
import Derived.Test.YtbfeailalhddgaaDiskRow
import Derived.Test.YtbfeailalhddgaaDiskLaw8
import Derived.ChangeOld
import Derived.Below
namespace Go.Proofs.Ytbfeailalhddgaa
open Go.ChangeShapes Go.WideShapes Go.ChangeAt Go.RowKit Go.Deep

theorem plan_sized {H : Type} {D sp : List (DataW H)} {y z : DataW H} (h : ∀ n ∈ DataW.weights Try.prog 25 (.agg [.slice D sp, y, z]), n ≤ reachBytes) : (D.length + sp.length) * Try.prog.bytesOf 4 ≤ reachBytes := by
  refine h _ ?_
  unfold DataW.weights
  rw [Try.underlying25]
  simp only [List.map_cons, List.map_nil, DataW.weightsEach]
  refine List.mem_append_left _ ?_
  unfold DataW.weights
  rw [Try.underlying23]
  exact List.mem_cons_self

set_option maxRecDepth 100000 in
theorem diskFuses_lifted (os : Os) (started : os.Started) (H : Type) (enc : TypeId × Value → H) :
    ReturnsInHanded {} Try.checked os 4 .any (Rows.diskFusesSpec.pre6 enc Try.prog Try.f4 Rows.diskFusesRow.domain false) (Rows.diskFusesSpec.post enc Try.prog Try.f4 false true false false) := by
  refine returnsInHanded_of_change_sized (C := Try.checked) own started (by kernel_rfl) Try.func4
    (ChangeSpec.witness6 (enc := enc) (C := Try.checked) false ⟨#[], #[.slice none 0 0, .int .i64 0, .agg #[.slice none 0 0, .int .i64 0, .int .i64 0]], []⟩ 8 (by kernel_rfl) (by kernel_rfl) (by kernel_rfl) (by kernel_rfl)) ?_
  intro W base args ds gs before hval0 hW hcnd hsz0 _
  have hsz : (DataW.weightsEach Try.prog (Try.f4.params.toList ++ Rows.diskFusesSpec.plain.varTypes Try.prog) (ds ++ gs)).all (· ≤ reachBytes) = true := hsz0
  have hval : ∀ (j : Nat) t v, Try.f4.params[j]? = some t → args[j]? = some v → Value.okWide Try.prog W .any base t v := hval0
  have hW' := hW
  obtain ⟨p, q, hA0, hV, rfl, hfz, hnd⟩ := hW
  have hA : DataW.TrodAll enc Try.prog W 0 (fun _ => true) true Try.f4.params.toList args.toList ds p := hA0
  rw [Try.params4] at hA hval hsz
  obtain ⟨v0, vs0, d0, ds0, p0, q0, hargs, rfl, rfl, h0, r0⟩ := trodAll_cons hA
  obtain ⟨v1, vs1, d1, ds1, p1, q1, rfl, rfl, rfl, h1, r1⟩ := trodAll_cons r0
  obtain ⟨v2, vs2, d2, ds2, p2, q2, rfl, rfl, rfl, h2, r2⟩ := trodAll_cons r1
  obtain ⟨rfl, rfl, rfl⟩ := trodAll_nil r2
  obtain rfl : args = #[v0, v1, v2] := by cases args; simp_all
  obtain ⟨rfl, rfl⟩ := trodVars_none hV
  obtain ⟨a0, len0, cap0, rfl⟩ := okWide_slice Try.underlying22 (hval 0 22 v0 rfl rfl)
  obtain ⟨a1, rfl, rfl, rfl, w1⟩ := open_int Try.underlying3 (hval 1 3 v1 rfl rfl) h1
  have k0 := h0
  have k2 := h2
  have lt0 : ∀ x ∈ p0, x.block < W.heap.size := by obtain ⟨m, hm⟩ := k0; exact DataW.trod_lt m _ _ _ hm
  have lt2 : ∀ x ∈ p2, x.block < W.heap.size := by obtain ⟨m, hm⟩ := k2; exact DataW.trod_lt m _ _ _ hm
  obtain ⟨l, rfl, hl⟩ : ∃ l : List Put, l.length = len0 ∧ Rd W a0 (l.length * 3) (flatP l) := by
    obtain ⟨fuel, hf⟩ := h0
    exact in_puts hf
  obtain ⟨kA, kc, keep, torn, cut, rfl, hk, _, x, y, z, rfl, hx⟩ := in_plan (hval 2 25 v2 rfl rfl) h2
  have hkm : keep.length ≤ 140737488351232 := by
    rcases hx with h | ⟨D, sp, rfl, hD⟩
    · omega
    · have h := plan_sized (D := D) (sp := sp) (y := y) (z := z) (fun n hn => by
        have := List.all_eq_true.1 hsz n (DataW.weights_mem_each (j := 2) rfl rfl n hn)
        simpa using this)
      rw [bytes_bool] at h
      simp only [reachBytes] at h
      omega
  clear hA0 hval0
  refine (diskFuses_walk a0 cap0 l a1 kA kc keep torn cut W hl hk hkm).mono fun e W' ⟨he, hf⟩ => ?_
  subst he
  have bel := hf.below
  exact ⟨_, rfl, _, _, _, [], _, [], hW', trodAll_mk1 (shut_bool Try.underlying4 _), (trodAll_cons_mk (Below.trod laidOut (by kernel_rfl) (of_decide_eq_true (by kernel_rfl)) k0 bel lt0) (trodAll_cons_mk (shut_int Try.underlying3 w1) (trodAll_cons_mk (Below.trod laidOut (by kernel_rfl) (of_decide_eq_true (by kernel_rfl)) k2 bel lt2) trodAll_mk0))), rfl, bel.frame _, fun h => by cases h⟩

theorem diskFuses_holds : Rows.DiskFusesSaid :=
  OpenClaim.holds_of_wide 4 Try.f4 rfl rfl rfl rfl rfl rfl rfl ⟨rfl, rfl, rfl, rfl, rfl⟩ rfl rfl rfl rfl rfl (by kernel_rfl) Try.func4 (by kernel_rfl)
    (of_decide_eq_true (by kernel_rfl)) (by unfold Func.isWrapper; first | (rw [if_pos (by decide +kernel)]; kernel_rfl) | (rw [if_neg (by decide +kernel)]; exact ⟨rfl, rfl⟩))
    (fun os started H enc _ => diskFuses_lifted os started H enc)
#print axioms diskFuses_holds
end Go.Proofs.Ytbfeailalhddgaa
