/- MoveWaits: for every model, instance, and every two numbers the law returns true, and what came in nV as it did. The listed variables are as the program lays them. -/
import Derived.Test.YtjaocmocdhckaaaGreatDoorCards
import Derived.Test.YtjaocmocdhckaaaGreatDoorTie
import Derived.Test.YtjaocmocdhckaaaGreatDoorZMwRow
import Derived.Test.YtjaocmocdhckaaaGreatDoorZMw14
import Derived.ShutString
import Derived.ChangeOld
import Derived.Below
set_option maxHeartbeats 16000000
set_option maxRecDepth 100000
namespace Go.Proofs.YtjaocmocdhckaaaGreatDoor.moveWaits
open Go.ChangeShapes Go.WideShapes Go.ChangeAt Go.RowKit
theorem own : ownKnob Tryz.prog.godebug = none := by kernel_rfl
theorem Z5 : laidOutB Tryz.prog = true := by kernel_rfl
theorem gM {W : World} (hL : laidMetH Tryz.prog Rows.moveWaitsRow.laid W) : Laid W utfL :=
 dI (l := Rows.moveWaitsRow.laid) (by rw [Go.MakeChecks.laidMetH_plain _ _ _ (by kernel_rfl)] at hL; exact hL) (List.mem_of_getElem? (i := 6) rfl) (List.mem_of_getElem? (i := 3) rfl)
theorem j1 (H : Type) (enc : TypeId × Value → H) (W : World) (base : Nat) (args : Array Value) (ds gs : List (DataW H)) (before : List MemPlace)
 (hval0 : ∀ (j : Nat) t v, Tryz.f4.params[j]? = some t → args[j]? = some v → Value.okWide Tryz.prog W .any base t v)
 (hW : DataW.Whole enc Tryz.prog Tryz.f4.params.toList Rows.moveWaitsSpec.vars false W args.toList ds gs before)
 (hsz0 : (DataW.weightsEach Tryz.prog (Tryz.f4.params.toList ++ Rows.moveWaitsSpec.plain.varTypes Tryz.prog) (ds ++ gs)).all (· ≤ reachBytes) = true)
 (hL : laidMetH Tryz.prog Rows.moveWaitsRow.laid W) :
 Calls Tryz.prog 4 args W fun e W' => ∃ v, e = .returned v ∧ Rows.moveWaitsSpec.post enc Tryz.prog Tryz.f4 false true false false W args v W' := by
 have hval := hval0
 have hsz := hsz0
 have hW' := hW
 have hLL := hL
 obtain ⟨p, q, hA0, hV, rfl, hfz, hnd⟩ := hW
 have hA : DataW.TrodAll enc Tryz.prog W 0 (fun _ => true) true Tryz.f4.params.toList args.toList ds p := hA0
 rw [Tryz.params4] at hA hval hsz
 obtain ⟨v0, vs0, d0, ds0, p0, q0, hargs, rfl, rfl, h0, r0⟩ := trodAll_cons hA
 obtain ⟨v1, vs1, d1, ds1, p1, q1, rfl, rfl, rfl, h1, r1⟩ := trodAll_cons r0
 obtain ⟨v2, vs2, d2, ds2, p2, q2, rfl, rfl, rfl, h2, r2⟩ := trodAll_cons r1
 obtain ⟨v3, vs3, d3, ds3, p3, q3, rfl, rfl, rfl, h3, r3⟩ := trodAll_cons r2
 obtain ⟨rfl, rfl, rfl⟩ := trodAll_nil r3
 obtain rfl : args = #[v0, v1, v2, v3] := by cases args; simp_all
 obtain ⟨rfl, rfl⟩ := trodVars_none hV
 have k0 := h0
 have lt0 : ∀ x ∈ p0, x.block < W.heap.size := by obtain ⟨m, hm⟩ := k0; exact DataW.trod_lt m _ _ _ hm
 obtain ⟨m, a, rfl, hs, hM⟩ := qN (hval 0 26 v0 rfl rfl) h0 (Sized.of hsz (j := 0) rfl rfl)
 have k1 := h1
 have lt1 : ∀ x ∈ p1, x.block < W.heap.size := by obtain ⟨m, hm⟩ := k1; exact DataW.trod_lt m _ _ _ hm
 obtain ⟨i, V, T, vc, tc, rfl, hbi, hwk, hVV, hTT⟩ := mR (hval 1 29 v1 rfl rfl) h1 (Sized.of hsz (j := 1) rfl rfl)
 obtain ⟨a2, rfl, rfl, rfl, w2⟩ := open_int Tryz.underlying3 (hval 2 3 v2 rfl rfl) h2
 obtain ⟨a3, rfl, rfl, rfl, w3⟩ := open_int Tryz.underlying3 (hval 3 3 v3 rfl rfl) h3
 clear hA0 hval0
 have hU := gM hL
 rw [Go.MakeChecks.laidMetH_plain _ _ _ (by kernel_rfl)] at hL
 have hY : Lay0 W := mH hL hU (List.mem_of_getElem? (i := 5) rfl) (List.mem_of_getElem? (i := 4) rfl)
 refine (R2 m a i V T vc tc a2 a3 W hs hM hbi hwk hVV hTT hY).mono fun e W' ⟨he, hf⟩ => ?_
 subst he
 have bel := hf.below
 exact ⟨_, rfl, _, _, _, [], _, [], hW', trodAll_mk1 (shut_bool Tryz.underlying4 _), (trodAll_cons_mk (Below.trod Z5 (by kernel_rfl) (odt (by kernel_rfl)) k0 bel lt0) (trodAll_cons_mk (Below.trod Z5 (by kernel_rfl) (odt (by kernel_rfl)) k1 bel lt1) (trodAll_cons_mk (shut_int Tryz.underlying3 w2) (trodAll_cons_mk (shut_int Tryz.underlying3 w3) trodAll_mk0)))), rfl, bel.frame _, fun h => by cases h⟩
def wit : Array Value := #[.agg #[.string ⟨#[]⟩, .string ⟨#[]⟩, .slice none 0 0, .slice none 0 0, .slice none 0 0], .agg #[.int .i64 0, .string ⟨#[]⟩, .int .u8 0, .slice none 0 0, .slice none 0 0], .int .i64 0, .int .i64 0]
noncomputable def OR (os : Os) : World := World.laidAll Tryz.prog os Rows.moveWaitsRow.laid
theorem gN (os : Os) : laidMet Tryz.prog Rows.moveWaitsRow.laid ((OR os).forCall (fun _ _ => 0) ⟨#[], wit, []⟩).memory :=
 laidMet_laidAll _ (by kernel_rfl) (by kernel_rfl)
def qZ {H : Type} : List (DataW H) := [.agg [.lit (.string []), .lit (.string []), .nil, .nil, .nil], .agg [.lit (.int .i64 0), .lit (.string []), .lit (.int .u8 0), .nil, .nil], .lit (.int .i64 0), .lit (.int .i64 0)]
theorem nV (os : Os) {H : Type} (enc : TypeId × Value → H) : ∃ places, DataW.whole enc Tryz.prog ((OR os).forCall (fun _ _ => 0) ⟨#[], wit, []⟩).memory Tryz.f4.params.toList Rows.moveWaitsSpec.vars false wit.toList 8 = some (qZ, [], places) :=
 ⟨[], by kernel_rfl⟩
theorem p9 (os : Os) (started : os.Started) (H : Type) (enc : TypeId × Value → H) (F : Stop.Interp) :
 ReturnsInHanded {} Tryz.checked os 4 .any ((OpenSpec.ofChange Rows.moveWaitsSpec).preRow enc Tryz.prog Tryz.f4 Rows.moveWaitsRow.domain false Rows.moveWaitsRow.laid) (((OpenSpec.ofChange Rows.moveWaitsSpec).at F).post enc Tryz.prog Tryz.f4 false true false false) := by
 obtain ⟨places, hx⟩ := nV os enc
 refine returnsInHanded_of_row (C := Tryz.checked) (s := (OpenSpec.ofChange Rows.moveWaitsSpec)) own started (by kernel_rfl) Tryz.func4
  (UT (enc := enc) (C := Tryz.checked) false (OR os) wit (World.laidAll_os _ _ _) (by kernel_rfl) (by kernel_rfl) (by kernel_rfl)
   (OpenSpec.preRow_of_cond 8 hx (by kernel_rfl) (fun k hk => by cases hk) (by kernel_rfl) (gN os))) ?_
 intro W base args ds gs before hval hW _ hcond hsz hL _ _
 exact j1 H enc W base args ds gs before hval hW hsz hL
theorem r7 : Rows.MoveWaitsSaid :=
 OpenClaim.holds_of_cond 4 Tryz.f4 rfl rfl rfl rfl rfl rfl rfl ⟨rfl, rfl, rfl, rfl, rfl⟩ rfl rfl rfl rfl rfl (by kernel_rfl) Tryz.func4 (by kernel_rfl)
  (odt (by kernel_rfl)) (by unfold Func.isWrapper; first | (rw [if_pos (by decide +kernel)]; kernel_rfl) | (rw [if_neg (by decide +kernel)]; exact ⟨rfl, rfl⟩))
  (fun os started H enc _ F => by rw [OpenClaim.pre_eq_preRow]; exact p9 os started H enc F)
theorem plain (f : FuncId) (fn : Func) (hf : Tryz.pinned.checked.prog.funcNamed "tollgate/tollgatelaw21.MoveWaits" = some f) (hfn : Tryz.pinned.checked.prog.funcs[f]? = some fn) :
 true = Tryz.pinned.checked.prog.looks [] ∧ ∀ (j : Nat) t, fn.params[j]? = some t → Tryz.pinned.checked.prog.wantsStandIn t = false := by
 obtain rfl : f = 4 := Option.some.inj ((show Tryz.prog.funcNamed "tollgate/tollgatelaw21.MoveWaits" = some 4 by kernel_rfl).symm.trans hf) |>.symm
 obtain rfl : fn = Tryz.f4 := (Option.some.inj (Tryz.func4.symm.trans hfn)).symm
 refine ⟨by kernel_rfl, fun j t ht => ?_⟩
 rw [Tryz.params4] at ht
 match j with
 | 0 => obtain rfl : 26 = t := Option.some.inj ht; show Tryz.prog.wantsStandIn 26 = false; kernel_rfl
 | 1 => obtain rfl : 29 = t := Option.some.inj ht; show Tryz.prog.wantsStandIn 29 = false; kernel_rfl
 | 2 => obtain rfl : 3 = t := Option.some.inj ht; show Tryz.prog.wantsStandIn 3 = false; kernel_rfl
 | 3 => obtain rfl : 3 = t := Option.some.inj ht; show Tryz.prog.wantsStandIn 3 = false; kernel_rfl
 | j + 4 => simp at ht
theorem card : Rows.MoveWaitsCardSaid :=
 Claim7.holds_tied_plain_at .later [] _ _ _ _ r7 (fun _ h => by cases h) (by kernel_rfl) (fun _ h => by cases h) moveWaits_row_tie rfl ⟨rfl, rfl⟩ (by kernel_rfl) rfl plain (by kernel_rfl)
#print axioms card
end Go.Proofs.YtjaocmocdhckaaaGreatDoor.moveWaits
