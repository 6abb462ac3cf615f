/- MailTurned: for every list of parties, every number and every mail the law returns true, and what came in qY as it did. The listed variables are as the program lays them. -/
import Derived.Test.YtaheakjfkpkefaaGreatDoorZMl13
import Derived.Test.YtaheakjfkpkefaaGreatDoorZJfMailTurned
import Derived.ShutString
import Derived.ChangeOld
import Derived.Below
set_option maxHeartbeats 16000000
set_option maxRecDepth 100000
namespace Go.Proofs.YtaheakjfkpkefaaGreatDoor.mailTurned
open Go.ChangeShapes Go.WideShapes Go.ChangeAt Go.RowKit
theorem own : ownKnob Tryz.prog.godebug = none := by kernel_rfl
theorem aV : laidOutB Tryz.prog = true := by kernel_rfl
theorem kN {W : World} (hL : laidMetH Tryz.prog Rows.mailTurnedRow.laid W) : Laid W utfL :=
 gP (l := Rows.mailTurnedRow.laid) (by rw [Go.MakeChecks.laidMetH_plain _ _ _ (by kernel_rfl)] at hL; exact hL) (List.mem_of_getElem? (i := 6) rfl) (List.mem_of_getElem? (i := 3) rfl)
theorem m2 (H : Type) (enc : TypeId × Value → H) (W : World) (base : Nat) (args : Array Value) (ds gs : List (DataW H)) (before : List MemPlace)
 (hval0 : ∀ (j : Nat) t v, Tryz.f4.params[j]? = some t → args[j]? = some v → Value.okWide Tryz.prog W .any base t v)
 (hW : DataW.Whole enc Tryz.prog Tryz.f4.params.toList Rows.mailTurnedSpec.vars false W args.toList ds gs before)
 (hsz0 : (DataW.weightsEach Tryz.prog (Tryz.f4.params.toList ++ Rows.mailTurnedSpec.plain.varTypes Tryz.prog) (ds ++ gs)).all (· ≤ reachBytes) = true)
 (hL : laidMetH Tryz.prog Rows.mailTurnedRow.laid W) :
 Calls Tryz.prog 4 args W fun e W' => ∃ v, e = .returned v ∧ Rows.mailTurnedSpec.post enc Tryz.prog Tryz.f4 false true false false W args v W' := by
 have hval := hval0
 have hsz := hsz0
 have hW' := hW
 have hLL := hL
 obtain ⟨p, q, hA0, hV, rfl, hfz, hnd⟩ := hW
 have hA : DataW.TrodAll enc Tryz.prog W 0 (fun _ => true) true Tryz.f4.params.toList args.toList ds p := hA0
 rw [Tryz.params4] at hA hval hsz
 obtain ⟨v0, vs0, d0, ds0, p0, q0, hargs, rfl, rfl, h0, r0⟩ := trodAll_cons hA
 obtain ⟨v1, vs1, d1, ds1, p1, q1, rfl, rfl, rfl, h1, r1⟩ := trodAll_cons r0
 obtain ⟨v2, vs2, d2, ds2, p2, q2, rfl, rfl, rfl, h2, r2⟩ := trodAll_cons r1
 obtain ⟨rfl, rfl, rfl⟩ := trodAll_nil r2
 obtain rfl : args = #[v0, v1, v2] := by cases args; simp_all
 obtain ⟨rfl, rfl⟩ := trodVars_none hV
 obtain ⟨a0, len0, cap0, rfl⟩ := okWide_slice Tryz.underlying22 (hval 0 22 v0 rfl rfl)
 have k0 := h0
 have lt0 : ∀ x ∈ p0, x.block < W.heap.size := by obtain ⟨m, hm⟩ := k0; exact DataW.trod_lt m _ _ _ hm
 obtain ⟨l, rfl, hoP, hrP, hnP⟩ : ∃ l : List Pq, l.length = len0 ∧ (∀ b ∈ l, PqOk W b) ∧ Rd W a0 (l.length * 10) (AB Pq.cells l) ∧ l.length ≤ reachBytes := by
  obtain ⟨fuel, hf⟩ := h0
  exact sX hf (Sized.of hsz (j := 0) rfl rfl)
 obtain ⟨a1, rfl, rfl, rfl, w1⟩ := open_int Tryz.underlying3 (hval 1 3 v1 rfl rfl) h1
 have k2 := h2
 have lt2 : ∀ x ∈ p2, x.block < W.heap.size := by obtain ⟨m, hm⟩ := k2; exact DataW.trod_lt m _ _ _ hm
 obtain ⟨q, rfl, hq⟩ := pS (hval 2 26 v2 rfl rfl) h2 (Sized.of hsz (j := 2) rfl rfl)
 clear hA0 hval0
 have hU := kN hL
 rw [Go.MakeChecks.laidMetH_plain _ _ _ (by kernel_rfl)] at hL
 have hY : Lay0 W := pH hL hU (List.mem_of_getElem? (i := 5) rfl) (List.mem_of_getElem? (i := 4) rfl)
 refine (Q4 a0 cap0 l a1 q W ⟨hrP, hoP, hnP⟩ hq hY).mono fun e W' ⟨he, hf⟩ => ?_
 subst he
 have bel := hf.below
 exact ⟨_, rfl, _, _, _, [], _, [], hW', trodAll_mk1 (shut_bool Tryz.underlying4 _), (trodAll_cons_mk (Below.trod aV (by kernel_rfl) (odt (by kernel_rfl)) k0 bel lt0) (trodAll_cons_mk (shut_int Tryz.underlying3 w1) (trodAll_cons_mk (Below.trod aV (by kernel_rfl) (odt (by kernel_rfl)) k2 bel lt2) trodAll_mk0))), rfl, bel.frame _, fun h => by cases h⟩
def wit : Array Value := #[.slice none 0 0, .int .i64 0, .agg #[.string ⟨#[]⟩, .string ⟨#[]⟩, .slice none 0 0, .int .i64 0]]
noncomputable def OY (os : Os) : World := World.laidAll Tryz.prog os Rows.mailTurnedRow.laid
theorem kO (os : Os) : laidMet Tryz.prog Rows.mailTurnedRow.laid ((OY os).forCall (fun _ _ => 0) ⟨#[], wit, []⟩).memory :=
 laidMet_laidAll _ (by kernel_rfl) (by kernel_rfl)
def uQ {H : Type} : List (DataW H) := [.nil, .lit (.int .i64 0), .agg [.lit (.string []), .lit (.string []), .nil, .lit (.int .i64 0)]]
theorem qY (os : Os) {H : Type} (enc : TypeId × Value → H) : ∃ places, DataW.whole enc Tryz.prog ((OY os).forCall (fun _ _ => 0) ⟨#[], wit, []⟩).memory Tryz.f4.params.toList Rows.mailTurnedSpec.vars false wit.toList 8 = some (uQ, [], places) :=
 ⟨[], by kernel_rfl⟩
theorem sU (os : Os) (started : os.Started) (H : Type) (enc : TypeId × Value → H) (F : Stop.Interp) :
 ReturnsInHanded {} Tryz.checked os 4 .any ((OpenSpec.ofChange Rows.mailTurnedSpec).preRow enc Tryz.prog Tryz.f4 Rows.mailTurnedRow.domain false Rows.mailTurnedRow.laid) (((OpenSpec.ofChange Rows.mailTurnedSpec).at F).post enc Tryz.prog Tryz.f4 false true false false) := by
 obtain ⟨places, hx⟩ := qY os enc
 refine returnsInHanded_of_row (C := Tryz.checked) (s := (OpenSpec.ofChange Rows.mailTurnedSpec)) own started (by kernel_rfl) Tryz.func4
  (VO (enc := enc) (C := Tryz.checked) false (OY os) wit (World.laidAll_os _ _ _) (by kernel_rfl) (by kernel_rfl) (by kernel_rfl)
   (OpenSpec.preRow_of_cond 8 hx (by kernel_rfl) (fun k hk => by cases hk) (by kernel_rfl) (kO os))) ?_
 intro W base args ds gs before hval hW _ hcond hsz hL _ _
 exact m2 H enc W base args ds gs before hval hW hsz hL
theorem uU : Rows.MailTurnedSaid :=
 OpenClaim.holds_of_cond 4 Tryz.f4 rfl rfl rfl rfl rfl rfl rfl ⟨rfl, rfl, rfl, rfl, rfl⟩ rfl rfl rfl rfl rfl (by kernel_rfl) Tryz.func4 tI
  (odt (by kernel_rfl)) (by unfold Func.isWrapper; first | (rw [if_pos (by decide +kernel)]; kernel_rfl) | (rw [if_neg (by decide +kernel)]; exact ⟨rfl, rfl⟩))
  (fun os started H enc _ F => by rw [OpenClaim.pre_eq_preRow]; exact sU os started H enc F)
theorem plain (f : FuncId) (fn : Func) (hf : Tryz.pinned.checked.prog.funcNamed "tollgate/tollgatelaw23.MailTurned" = some f) (hfn : Tryz.pinned.checked.prog.funcs[f]? = some fn) :
 true = Tryz.pinned.checked.prog.looks [] ∧ ∀ (j : Nat) t, fn.params[j]? = some t → Tryz.pinned.checked.prog.wantsStandIn t = false := by
 obtain rfl : f = 4 := Option.some.inj ((show Tryz.prog.funcNamed "tollgate/tollgatelaw23.MailTurned" = some 4 by kernel_rfl).symm.trans hf) |>.symm
 obtain rfl : fn = Tryz.f4 := (Option.some.inj (Tryz.func4.symm.trans hfn)).symm
 refine ⟨by kernel_rfl, fun j t ht => ?_⟩
 rw [Tryz.params4] at ht
 match j with
 | 0 => obtain rfl : 22 = t := Option.some.inj ht; show Tryz.prog.wantsStandIn 22 = false; kernel_rfl
 | 1 => obtain rfl : 3 = t := Option.some.inj ht; show Tryz.prog.wantsStandIn 3 = false; kernel_rfl
 | 2 => obtain rfl : 26 = t := Option.some.inj ht; show Tryz.prog.wantsStandIn 26 = false; kernel_rfl
 | j + 3 => simp at ht
theorem card : Rows.MailTurnedCardSaid :=
 Claim7.holds_tied_plain_at .later [] _ _ _ _ uU (fun _ h => by cases h) (by kernel_rfl) (fun _ h => by cases h) mailTurned_row_tie rfl ⟨rfl, rfl⟩ (by kernel_rfl) rfl plain (by kernel_rfl)
#print axioms card
end Go.Proofs.YtaheakjfkpkefaaGreatDoor.mailTurned
