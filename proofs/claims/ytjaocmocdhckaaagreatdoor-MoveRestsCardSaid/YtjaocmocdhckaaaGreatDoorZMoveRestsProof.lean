/- MoveRests: for every model, instance, token, way, and every two numbers the law returns true, and what came in oU as it did. The listed variables are as the program lays them. -/
import Derived.Test.YtjaocmocdhckaaaGreatDoorCards
import Derived.Test.YtjaocmocdhckaaaGreatDoorTie
import Derived.Test.YtjaocmocdhckaaaGreatDoorZMwRow
import Derived.Test.YtjaocmocdhckaaaGreatDoorZMr1
import Derived.ShutString
import Derived.ChangeOld
import Derived.Below
set_option maxHeartbeats 16000000
set_option maxRecDepth 100000
namespace Go.Proofs.YtjaocmocdhckaaaGreatDoor.moveRests
open Go.ChangeShapes Go.WideShapes Go.ChangeAt Go.RowKit
theorem own : ownKnob Tryz.prog.godebug = none := by kernel_rfl
theorem UR : laidOutB Tryz.prog = true := by kernel_rfl
theorem iN {W : World} (hL : laidMetH Tryz.prog Rows.moveRestsRow.laid W) : Laid W utfL :=
 eR (l := Rows.moveRestsRow.laid) (by rw [Go.MakeChecks.laidMetH_plain _ _ _ (by kernel_rfl)] at hL; exact hL) (List.mem_of_getElem? (i := 6) rfl) (List.mem_of_getElem? (i := 3) rfl)
theorem jY (H : Type) (enc : TypeId × Value → H) (W : World) (base : Nat) (args : Array Value) (ds gs : List (DataW H)) (before : List MemPlace)
 (hval0 : ∀ (j : Nat) t v, Tryz.f3.params[j]? = some t → args[j]? = some v → Value.okWide Tryz.prog W .any base t v)
 (hW : DataW.Whole enc Tryz.prog Tryz.f3.params.toList Rows.moveRestsSpec.vars false W args.toList ds gs before)
 (hsz0 : (DataW.weightsEach Tryz.prog (Tryz.f3.params.toList ++ Rows.moveRestsSpec.plain.varTypes Tryz.prog) (ds ++ gs)).all (· ≤ reachBytes) = true)
 (hL : laidMetH Tryz.prog Rows.moveRestsRow.laid W) :
 Calls Tryz.prog 3 args W fun e W' => ∃ v, e = .returned v ∧ Rows.moveRestsSpec.post enc Tryz.prog Tryz.f3 false true false false W args v W' := by
 have hval := hval0
 have hsz := hsz0
 have hW' := hW
 have hLL := hL
 obtain ⟨p, q, hA0, hV, rfl, hfz, hnd⟩ := hW
 have hA : DataW.TrodAll enc Tryz.prog W 0 (fun _ => true) true Tryz.f3.params.toList args.toList ds p := hA0
 rw [Tryz.params3] at hA hval hsz
 obtain ⟨v0, vs0, d0, ds0, p0, q0, hargs, rfl, rfl, h0, r0⟩ := trodAll_cons hA
 obtain ⟨v1, vs1, d1, ds1, p1, q1, rfl, rfl, rfl, h1, r1⟩ := trodAll_cons r0
 obtain ⟨v2, vs2, d2, ds2, p2, q2, rfl, rfl, rfl, h2, r2⟩ := trodAll_cons r1
 obtain ⟨v3, vs3, d3, ds3, p3, q3, rfl, rfl, rfl, h3, r3⟩ := trodAll_cons r2
 obtain ⟨v4, vs4, d4, ds4, p4, q4, rfl, rfl, rfl, h4, r4⟩ := trodAll_cons r3
 obtain ⟨v5, vs5, d5, ds5, p5, q5, rfl, rfl, rfl, h5, r5⟩ := trodAll_cons r4
 obtain ⟨rfl, rfl, rfl⟩ := trodAll_nil r5
 obtain rfl : args = #[v0, v1, v2, v3, v4, v5] := by cases args; simp_all
 obtain ⟨rfl, rfl⟩ := trodVars_none hV
 have k0 := h0
 have lt0 : ∀ x ∈ p0, x.block < W.heap.size := by obtain ⟨m, hm⟩ := k0; exact DataW.trod_lt m _ _ _ hm
 obtain ⟨m, a, rfl, hs, hM⟩ := rT (hval 0 26 v0 rfl rfl) h0 (Sized.of hsz (j := 0) rfl rfl)
 have k1 := h1
 have lt1 : ∀ x ∈ p1, x.block < W.heap.size := by obtain ⟨m, hm⟩ := k1; exact DataW.trod_lt m _ _ _ hm
 obtain ⟨i, V, T, vc, tc, rfl, hbi, hwk, hVV, hTT⟩ := nR (hval 1 29 v1 rfl rfl) h1 (Sized.of hsz (j := 1) rfl rfl)
 obtain ⟨a2, rfl, rfl, rfl, w2⟩ := open_int Tryz.underlying3 (hval 2 3 v2 rfl rfl) h2
 have k3 := h3
 have lt3 : ∀ x ∈ p3, x.block < W.heap.size := by obtain ⟨m, hm⟩ := k3; exact DataW.trod_lt m _ _ _ hm
 obtain ⟨s3, rfl, rfl, rfl, _⟩ := Go.ChangeMaps.open_string Tryz.underlying9 (hval 3 9 v3 rfl rfl) h3
 have z3 := (Sized.of hsz (j := 3) rfl rfl).text
 obtain ⟨via, rfl⟩ : ∃ l : List UInt8, s3 = ⟨l.toArray⟩ := ⟨s3.data.toList, by cases s3; simp⟩
 have hvia : via.length ≤ 4611686018427387903 := by have := z3; simp [reachBytes] at this; omega
 obtain ⟨a4, rfl, rfl, rfl, w4⟩ := open_int Tryz.underlying3 (hval 4 3 v4 rfl rfl) h4
 obtain ⟨a5, rfl, rfl, rfl, w5⟩ := open_int Tryz.underlying3 (hval 5 3 v5 rfl rfl) h5
 clear hA0 hval0
 have hU := iN hL
 rw [Go.MakeChecks.laidMetH_plain _ _ _ (by kernel_rfl)] at hL
 have hY : Lay0 W := nF hL hU (List.mem_of_getElem? (i := 5) rfl) (List.mem_of_getElem? (i := 4) rfl)
 refine (RP m a i V T vc tc a2 via a4 a5 W hs hM hbi hwk hvia hVV hTT hY).mono fun e W' ⟨he, hf⟩ => ?_
 subst he
 have bel := hf.below
 exact ⟨_, rfl, _, _, _, [], _, [], hW', trodAll_mk1 (shut_bool Tryz.underlying4 _), (trodAll_cons_mk (Below.trod UR (by kernel_rfl) (odt (by kernel_rfl)) k0 bel lt0) (trodAll_cons_mk (Below.trod UR (by kernel_rfl) (odt (by kernel_rfl)) k1 bel lt1) (trodAll_cons_mk (shut_int Tryz.underlying3 w2) (trodAll_cons_mk (Below.trod UR (by kernel_rfl) (odt (by kernel_rfl)) k3 bel lt3) (trodAll_cons_mk (shut_int Tryz.underlying3 w4) (trodAll_cons_mk (shut_int Tryz.underlying3 w5) trodAll_mk0)))))), rfl, bel.frame _, fun h => by cases h⟩
def wit : Array Value := #[.agg #[.string ⟨#[]⟩, .string ⟨#[]⟩, .slice none 0 0, .slice none 0 0, .slice none 0 0], .agg #[.int .i64 0, .string ⟨#[]⟩, .int .u8 0, .slice none 0 0, .slice none 0 0], .int .i64 0, .string ⟨#[]⟩, .int .i64 0, .int .i64 0]
noncomputable def PL (os : Os) : World := World.laidAll Tryz.prog os Rows.moveRestsRow.laid
theorem iO (os : Os) : laidMet Tryz.prog Rows.moveRestsRow.laid ((PL os).forCall (fun _ _ => 0) ⟨#[], wit, []⟩).memory :=
 laidMet_laidAll _ (by kernel_rfl) (by kernel_rfl)
def sD {H : Type} : List (DataW H) := [.agg [.lit (.string []), .lit (.string []), .nil, .nil, .nil], .agg [.lit (.int .i64 0), .lit (.string []), .lit (.int .u8 0), .nil, .nil], .lit (.int .i64 0), .lit (.string []), .lit (.int .i64 0), .lit (.int .i64 0)]
theorem oU (os : Os) {H : Type} (enc : TypeId × Value → H) : ∃ places, DataW.whole enc Tryz.prog ((PL os).forCall (fun _ _ => 0) ⟨#[], wit, []⟩).memory Tryz.f3.params.toList Rows.moveRestsSpec.vars false wit.toList 8 = some (sD, [], places) :=
 ⟨[], by kernel_rfl⟩
theorem qI (os : Os) (started : os.Started) (H : Type) (enc : TypeId × Value → H) (F : Stop.Interp) :
 ReturnsInHanded {} Tryz.checked os 3 .any ((OpenSpec.ofChange Rows.moveRestsSpec).preRow enc Tryz.prog Tryz.f3 Rows.moveRestsRow.domain false Rows.moveRestsRow.laid) (((OpenSpec.ofChange Rows.moveRestsSpec).at F).post enc Tryz.prog Tryz.f3 false true false false) := by
 obtain ⟨places, hx⟩ := oU os enc
 refine returnsInHanded_of_row (C := Tryz.checked) (s := (OpenSpec.ofChange Rows.moveRestsSpec)) own started (by kernel_rfl) Tryz.func3
  (VL (enc := enc) (C := Tryz.checked) false (PL os) wit (World.laidAll_os _ _ _) (by kernel_rfl) (by kernel_rfl) (by kernel_rfl)
   (OpenSpec.preRow_of_cond 8 hx (by kernel_rfl) (fun k hk => by cases hk) (by kernel_rfl) (iO os))) ?_
 intro W base args ds gs before hval hW _ hcond hsz hL _ _
 exact jY H enc W base args ds gs before hval hW hsz hL
theorem sH : Rows.MoveRestsSaid :=
 OpenClaim.holds_of_cond 3 Tryz.f3 rfl rfl rfl rfl rfl rfl rfl ⟨rfl, rfl, rfl, rfl, rfl⟩ rfl rfl rfl rfl rfl (by kernel_rfl) Tryz.func3 (by kernel_rfl)
  (odt (by kernel_rfl)) (by unfold Func.isWrapper; first | (rw [if_pos (by decide +kernel)]; kernel_rfl) | (rw [if_neg (by decide +kernel)]; exact ⟨rfl, rfl⟩))
  (fun os started H enc _ F => by rw [OpenClaim.pre_eq_preRow]; exact qI os started H enc F)
theorem plain (f : FuncId) (fn : Func) (hf : Tryz.pinned.checked.prog.funcNamed "tollgate/tollgatelaw21.MoveRests" = some f) (hfn : Tryz.pinned.checked.prog.funcs[f]? = some fn) :
 true = Tryz.pinned.checked.prog.looks [] ∧ ∀ (j : Nat) t, fn.params[j]? = some t → Tryz.pinned.checked.prog.wantsStandIn t = false := by
 obtain rfl : f = 3 := Option.some.inj ((show Tryz.prog.funcNamed "tollgate/tollgatelaw21.MoveRests" = some 3 by kernel_rfl).symm.trans hf) |>.symm
 obtain rfl : fn = Tryz.f3 := (Option.some.inj (Tryz.func3.symm.trans hfn)).symm
 refine ⟨by kernel_rfl, fun j t ht => ?_⟩
 rw [Tryz.params3] at ht
 match j with
 | 0 => obtain rfl : 26 = t := Option.some.inj ht; show Tryz.prog.wantsStandIn 26 = false; kernel_rfl
 | 1 => obtain rfl : 29 = t := Option.some.inj ht; show Tryz.prog.wantsStandIn 29 = false; kernel_rfl
 | 2 => obtain rfl : 3 = t := Option.some.inj ht; show Tryz.prog.wantsStandIn 3 = false; kernel_rfl
 | 3 => obtain rfl : 9 = t := Option.some.inj ht; show Tryz.prog.wantsStandIn 9 = false; kernel_rfl
 | 4 => obtain rfl : 3 = t := Option.some.inj ht; show Tryz.prog.wantsStandIn 3 = false; kernel_rfl
 | 5 => obtain rfl : 3 = t := Option.some.inj ht; show Tryz.prog.wantsStandIn 3 = false; kernel_rfl
 | j + 6 => simp at ht
theorem card : Rows.MoveRestsCardSaid :=
 Claim7.holds_tied_plain_at .later [] _ _ _ _ sH (fun _ h => by cases h) (by kernel_rfl) (fun _ h => by cases h) moveRests_row_tie rfl ⟨rfl, rfl⟩ (by kernel_rfl) rfl plain (by kernel_rfl)
#print axioms card
end Go.Proofs.YtjaocmocdhckaaaGreatDoor.moveRests
