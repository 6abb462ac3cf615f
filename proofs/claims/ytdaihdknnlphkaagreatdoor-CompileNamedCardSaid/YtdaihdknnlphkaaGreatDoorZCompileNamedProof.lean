/- CompileNamed: for every model the law returns true, and what came in u7 as it did. The listed variables are as the program lays them. -/
import Derived.Test.YtdaihdknnlphkaaGreatDoorCards
import Derived.Test.YtdaihdknnlphkaaGreatDoorTie
import Derived.Test.YtdaihdknnlphkaaGreatDoorZCnRow
import Derived.ShutString
import Derived.ChangeOld
import Derived.Below
set_option maxHeartbeats 16000000
set_option maxRecDepth 100000
namespace Go.Proofs.YtdaihdknnlphkaaGreatDoor.compileNamed
open Go.ChangeShapes Go.WideShapes Go.ChangeAt Go.RowKit
theorem own : ownKnob Tryz.prog.godebug = none := by kernel_rfl
theorem sG : laidOutB Tryz.prog = true := by kernel_rfl
theorem n8 {W : World} (hL : laidMetH Tryz.prog Rows.compileNamedRow.laid W) : Laid W utfL :=
 kP (l := Rows.compileNamedRow.laid) (by rw [Go.MakeChecks.laidMetH_plain _ _ _ (by kernel_rfl)] at hL; exact hL) (List.mem_of_getElem? (i := 6) rfl) (List.mem_of_getElem? (i := 3) rfl)
theorem oU (H : Type) (enc : TypeId × Value → H) (W : World) (base : Nat) (args : Array Value) (ds gs : List (DataW H)) (before : List MemPlace)
 (hval0 : ∀ (j : Nat) t v, Tryz.f3.params[j]? = some t → args[j]? = some v → Value.okWide Tryz.prog W .any base t v)
 (hW : DataW.Whole enc Tryz.prog Tryz.f3.params.toList Rows.compileNamedSpec.vars false W args.toList ds gs before)
 (hsz0 : (DataW.weightsEach Tryz.prog (Tryz.f3.params.toList ++ Rows.compileNamedSpec.plain.varTypes Tryz.prog) (ds ++ gs)).all (· ≤ reachBytes) = true)
 (hL : laidMetH Tryz.prog Rows.compileNamedRow.laid W) :
 Calls Tryz.prog 3 args W fun e W' => ∃ v, e = .returned v ∧ Rows.compileNamedSpec.post enc Tryz.prog Tryz.f3 false true false false W args v W' := by
 have hval := hval0
 have hsz := hsz0
 have hW' := hW
 have hLL := hL
 obtain ⟨p, q, hA0, hV, rfl, hfz, hnd⟩ := hW
 have hA : DataW.TrodAll enc Tryz.prog W 0 (fun _ => true) true Tryz.f3.params.toList args.toList ds p := hA0
 rw [Tryz.params3] at hA hval hsz
 obtain ⟨v0, vs0, d0, ds0, p0, q0, hargs, rfl, rfl, h0, r0⟩ := trodAll_cons hA
 obtain ⟨rfl, rfl, rfl⟩ := trodAll_nil r0
 obtain rfl : args = #[v0] := by cases args; simp_all
 obtain ⟨rfl, rfl⟩ := trodVars_none hV
 have k0 := h0
 have lt0 : ∀ x ∈ p0, x.block < W.heap.size := by obtain ⟨m, hm⟩ := k0; exact DataW.trod_lt m _ _ _ hm
 obtain ⟨m, a, rfl, hs, hz, hM⟩ := xV (hval 0 26 v0 rfl rfl) h0 (Sized.of hsz (j := 0) rfl rfl)
 clear hA0 hval0
 have hU := n8 hL
 rw [Go.MakeChecks.laidMetH_plain _ _ _ (by kernel_rfl)] at hL
 have hY : Lay0 W := sF hL hU (List.mem_of_getElem? (i := 5) rfl) (List.mem_of_getElem? (i := 4) rfl)
 refine (OA m a W hs hz hM hY).mono fun e W' ⟨he, hf⟩ => ?_
 subst he
 have bel := hf.below
 exact ⟨_, rfl, _, _, _, [], _, [], hW', trodAll_mk1 (shut_bool Tryz.underlying4 _), (trodAll_cons_mk (Below.trod sG (by kernel_rfl) (odt (by kernel_rfl)) k0 bel lt0) trodAll_mk0), rfl, bel.frame _, fun h => by cases h⟩
def wit : Array Value := #[.agg #[.string ⟨#[]⟩, .string ⟨#[]⟩, .slice none 0 0, .slice none 0 0, .slice none 0 0]]
noncomputable def P3 (os : Os) : World := World.laidAll Tryz.prog os Rows.compileNamedRow.laid
theorem n9 (os : Os) : laidMet Tryz.prog Rows.compileNamedRow.laid ((P3 os).forCall (fun _ _ => 0) ⟨#[], wit, []⟩).memory :=
 laidMet_laidAll _ (by kernel_rfl) (by kernel_rfl)
def yM {H : Type} : List (DataW H) := [.agg [.lit (.string []), .lit (.string []), .nil, .nil, .nil]]
theorem u7 (os : Os) {H : Type} (enc : TypeId × Value → H) : ∃ places, DataW.whole enc Tryz.prog ((P3 os).forCall (fun _ _ => 0) ⟨#[], wit, []⟩).memory Tryz.f3.params.toList Rows.compileNamedSpec.vars false wit.toList 8 = some (yM, [], places) :=
 ⟨[], by kernel_rfl⟩
theorem wD (os : Os) (started : os.Started) (H : Type) (enc : TypeId × Value → H) (F : Stop.Interp) :
 ReturnsInHanded {} Tryz.checked os 3 .any ((OpenSpec.ofChange Rows.compileNamedSpec).preRow enc Tryz.prog Tryz.f3 Rows.compileNamedRow.domain false Rows.compileNamedRow.laid) (((OpenSpec.ofChange Rows.compileNamedSpec).at F).post enc Tryz.prog Tryz.f3 false true false false) := by
 obtain ⟨places, hx⟩ := u7 os enc
 refine returnsInHanded_of_row (C := Tryz.checked) (s := (OpenSpec.ofChange Rows.compileNamedSpec)) own started (by kernel_rfl) Tryz.func3
  (XG (enc := enc) (C := Tryz.checked) false (P3 os) wit (World.laidAll_os _ _ _) (by kernel_rfl) (by kernel_rfl) (by kernel_rfl)
   (OpenSpec.preRow_of_cond 8 hx (by kernel_rfl) (fun k hk => by cases hk) (by kernel_rfl) (n9 os))) ?_
 intro W base args ds gs before hval hW _ hcond hsz hL _ _
 exact oU H enc W base args ds gs before hval hW hsz hL
theorem yT : Rows.CompileNamedSaid :=
 OpenClaim.holds_of_cond 3 Tryz.f3 rfl rfl rfl rfl rfl rfl rfl ⟨rfl, rfl, rfl, rfl, rfl⟩ rfl rfl rfl rfl rfl (by kernel_rfl) Tryz.func3 (by kernel_rfl)
  (odt (by kernel_rfl)) (by unfold Func.isWrapper; first | (rw [if_pos (by decide +kernel)]; kernel_rfl) | (rw [if_neg (by decide +kernel)]; exact ⟨rfl, rfl⟩))
  (fun os started H enc _ F => by rw [OpenClaim.pre_eq_preRow]; exact wD os started H enc F)
theorem plain (f : FuncId) (fn : Func) (hf : Tryz.pinned.checked.prog.funcNamed "tollgate/tollgatelaw16.CompileNamed" = some f) (hfn : Tryz.pinned.checked.prog.funcs[f]? = some fn) :
 true = Tryz.pinned.checked.prog.looks [] ∧ ∀ (j : Nat) t, fn.params[j]? = some t → Tryz.pinned.checked.prog.wantsStandIn t = false := by
 obtain rfl : f = 3 := Option.some.inj ((show Tryz.prog.funcNamed "tollgate/tollgatelaw16.CompileNamed" = some 3 by kernel_rfl).symm.trans hf) |>.symm
 obtain rfl : fn = Tryz.f3 := (Option.some.inj (Tryz.func3.symm.trans hfn)).symm
 refine ⟨by kernel_rfl, fun j t ht => ?_⟩
 rw [Tryz.params3] at ht
 match j with
 | 0 => obtain rfl : 26 = t := Option.some.inj ht; show Tryz.prog.wantsStandIn 26 = false; kernel_rfl
 | j + 1 => simp at ht
theorem card : Rows.CompileNamedCardSaid :=
 Claim7.holds_tied_plain_at .later [] _ _ _ _ yT (fun _ h => by cases h) (by kernel_rfl) (fun _ h => by cases h) compileNamed_row_tie rfl ⟨rfl, rfl⟩ (by kernel_rfl) rfl plain (by kernel_rfl)
#print axioms card
end Go.Proofs.YtdaihdknnlphkaaGreatDoor.compileNamed
