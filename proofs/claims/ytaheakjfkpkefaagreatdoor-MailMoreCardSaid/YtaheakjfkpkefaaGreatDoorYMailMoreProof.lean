/- MailMore: for every list of parties, of mails, and every mail the law returns true, and what came in pR as it did. The listed variables are as the program lays them. -/
import Derived.Test.YtaheakjfkpkefaaGreatDoorYMl14
import Derived.Test.YtaheakjfkpkefaaGreatDoorYJfMailMore
import Derived.ShutString
import Derived.ChangeOld
import Derived.Below
set_option maxHeartbeats 16000000
set_option maxRecDepth 100000
namespace Go.Proofs.YtaheakjfkpkefaaGreatDoor.mailMore
open Go.ChangeShapes Go.WideShapes Go.ChangeAt Go.RowKit
theorem own : ownKnob Tryz.prog.godebug = none := by kernel_rfl
theorem UR : laidOutB Tryz.prog = true := by kernel_rfl
theorem jJ {W : World} (hL : laidMetH Tryz.prog Rows.mailMoreRow.laid W) : Laid W utfL :=
 fH (l := Rows.mailMoreRow.laid) (by rw [Go.MakeChecks.laidMetH_plain _ _ _ (by kernel_rfl)] at hL; exact hL) (List.mem_of_getElem? (i := 6) rfl) (List.mem_of_getElem? (i := 3) rfl)
theorem kZ (H : Type) (enc : TypeId × Value → H) (W : World) (base : Nat) (args : Array Value) (ds gs : List (DataW H)) (before : List MemPlace)
 (hval0 : ∀ (j : Nat) t v, Tryz.f3.params[j]? = some t → args[j]? = some v → Value.okWide Tryz.prog W .any base t v)
 (hW : DataW.Whole enc Tryz.prog Tryz.f3.params.toList Rows.mailMoreSpec.vars false W args.toList ds gs before)
 (hsz0 : (DataW.weightsEach Tryz.prog (Tryz.f3.params.toList ++ Rows.mailMoreSpec.plain.varTypes Tryz.prog) (ds ++ gs)).all (· ≤ reachBytes) = true)
 (hL : laidMetH Tryz.prog Rows.mailMoreRow.laid W) :
 Calls Tryz.prog 3 args W fun e W' => ∃ v, e = .returned v ∧ Rows.mailMoreSpec.post enc Tryz.prog Tryz.f3 false true false false W args v W' := by
 have hval := hval0
 have hsz := hsz0
 have hW' := hW
 have hLL := hL
 obtain ⟨p, q, hA0, hV, rfl, hfz, hnd⟩ := hW
 have hA : DataW.TrodAll enc Tryz.prog W 0 (fun _ => true) true Tryz.f3.params.toList args.toList ds p := hA0
 rw [Tryz.params3] at hA hval hsz
 obtain ⟨v0, vs0, d0, ds0, p0, q0, hargs, rfl, rfl, h0, r0⟩ := trodAll_cons hA
 obtain ⟨v1, vs1, d1, ds1, p1, q1, rfl, rfl, rfl, h1, r1⟩ := trodAll_cons r0
 obtain ⟨v2, vs2, d2, ds2, p2, q2, rfl, rfl, rfl, h2, r2⟩ := trodAll_cons r1
 obtain ⟨rfl, rfl, rfl⟩ := trodAll_nil r2
 obtain rfl : args = #[v0, v1, v2] := by cases args; simp_all
 obtain ⟨rfl, rfl⟩ := trodVars_none hV
 obtain ⟨a0, len0, cap0, rfl⟩ := okWide_slice Tryz.underlying22 (hval 0 22 v0 rfl rfl)
 have k0 := h0
 have lt0 : ∀ x ∈ p0, x.block < W.heap.size := by obtain ⟨m, hm⟩ := k0; exact DataW.trod_lt m _ _ _ hm
 obtain ⟨l, rfl, hoP, hrP, hnP⟩ : ∃ l : List Pq, l.length = len0 ∧ (∀ b ∈ l, PqOk W b) ∧ Rd W a0 (l.length * 10) (AB Pq.cells l) ∧ l.length ≤ reachBytes := by
  obtain ⟨fuel, hf⟩ := h0
  exact rL hf (Sized.of hsz (j := 0) rfl rfl)
 obtain ⟨a1, len1, cap1, rfl⟩ := okWide_slice Tryz.underlying23 (hval 1 23 v1 rfl rfl)
 have k1 := h1
 have lt1 : ∀ x ∈ p1, x.block < W.heap.size := by obtain ⟨m, hm⟩ := k1; exact DataW.trod_lt m _ _ _ hm
 obtain ⟨lm, rfl, hoM, hrM⟩ : ∃ l : List Mq, l.length = len1 ∧ (∀ b ∈ l, MqOk W b) ∧ Rd W a1 (l.length * 4) (AB Mq.cells l) := by
  obtain ⟨fuel, hf⟩ := h1
  exact jV hf (Sized.of hsz (j := 1) rfl rfl)
 have k2 := h2
 have lt2 : ∀ x ∈ p2, x.block < W.heap.size := by obtain ⟨m, hm⟩ := k2; exact DataW.trod_lt m _ _ _ hm
 obtain ⟨q, rfl, hq⟩ := oK (hval 2 26 v2 rfl rfl) h2 (Sized.of hsz (j := 2) rfl rfl)
 clear hA0 hval0
 have hU := jJ hL
 rw [Go.MakeChecks.laidMetH_plain _ _ _ (by kernel_rfl)] at hL
 have hY : Lay0 W := o9 hL hU (List.mem_of_getElem? (i := 5) rfl) (List.mem_of_getElem? (i := 4) rfl)
 refine (SS a0 cap0 l a1 cap1 lm q W ⟨hrP, hoP, hnP⟩ ⟨hrM, hoM⟩ hq hY).mono fun e W' ⟨he, hf⟩ => ?_
 subst he
 have bel := hf.below
 exact ⟨_, rfl, _, _, _, [], _, [], hW', trodAll_mk1 (shut_bool Tryz.underlying4 _), (trodAll_cons_mk (Below.trod UR (by kernel_rfl) (odt (by kernel_rfl)) k0 bel lt0) (trodAll_cons_mk (Below.trod UR (by kernel_rfl) (odt (by kernel_rfl)) k1 bel lt1) (trodAll_cons_mk (Below.trod UR (by kernel_rfl) (odt (by kernel_rfl)) k2 bel lt2) trodAll_mk0))), rfl, bel.frame _, fun h => by cases h⟩
def wit : Array Value := #[.slice none 0 0, .slice none 0 0, .agg #[.string ⟨#[]⟩, .string ⟨#[]⟩, .slice none 0 0, .int .i64 0]]
noncomputable def OY (os : Os) : World := World.laidAll Tryz.prog os Rows.mailMoreRow.laid
theorem jK (os : Os) : laidMet Tryz.prog Rows.mailMoreRow.laid ((OY os).forCall (fun _ _ => 0) ⟨#[], wit, []⟩).memory :=
 laidMet_laidAll _ (by kernel_rfl) (by kernel_rfl)
def tK {H : Type} : List (DataW H) := [.nil, .nil, .agg [.lit (.string []), .lit (.string []), .nil, .lit (.int .i64 0)]]
theorem pR (os : Os) {H : Type} (enc : TypeId × Value → H) : ∃ places, DataW.whole enc Tryz.prog ((OY os).forCall (fun _ _ => 0) ⟨#[], wit, []⟩).memory Tryz.f3.params.toList Rows.mailMoreSpec.vars false wit.toList 8 = some (tK, [], places) :=
 ⟨[], by kernel_rfl⟩
theorem rH (os : Os) (started : os.Started) (H : Type) (enc : TypeId × Value → H) (F : Stop.Interp) :
 ReturnsInHanded {} Tryz.checked os 3 .any ((OpenSpec.ofChange Rows.mailMoreSpec).preRow enc Tryz.prog Tryz.f3 Rows.mailMoreRow.domain false Rows.mailMoreRow.laid) (((OpenSpec.ofChange Rows.mailMoreSpec).at F).post enc Tryz.prog Tryz.f3 false true false false) := by
 obtain ⟨places, hx⟩ := pR os enc
 refine returnsInHanded_of_row (C := Tryz.checked) (s := (OpenSpec.ofChange Rows.mailMoreSpec)) own started (by kernel_rfl) Tryz.func3
  (VM (enc := enc) (C := Tryz.checked) false (OY os) wit (World.laidAll_os _ _ _) (by kernel_rfl) (by kernel_rfl) (by kernel_rfl)
   (OpenSpec.preRow_of_cond 8 hx (by kernel_rfl) (fun k hk => by cases hk) (by kernel_rfl) (jK os))) ?_
 intro W base args ds gs before hval hW _ hcond hsz hL _ _
 exact kZ H enc W base args ds gs before hval hW hsz hL
theorem tO : Rows.MailMoreSaid :=
 OpenClaim.holds_of_cond 3 Tryz.f3 rfl rfl rfl rfl rfl rfl rfl ⟨rfl, rfl, rfl, rfl, rfl⟩ rfl rfl rfl rfl rfl (by kernel_rfl) Tryz.func3 rZ
  (odt (by kernel_rfl)) (by unfold Func.isWrapper; first | (rw [if_pos (by decide +kernel)]; kernel_rfl) | (rw [if_neg (by decide +kernel)]; exact ⟨rfl, rfl⟩))
  (fun os started H enc _ F => by rw [OpenClaim.pre_eq_preRow]; exact rH os started H enc F)
theorem plain (f : FuncId) (fn : Func) (hf : Tryz.pinned.checked.prog.funcNamed "tollgate/tollgatelaw23.MailMore" = some f) (hfn : Tryz.pinned.checked.prog.funcs[f]? = some fn) :
 true = Tryz.pinned.checked.prog.looks [] ∧ ∀ (j : Nat) t, fn.params[j]? = some t → Tryz.pinned.checked.prog.wantsStandIn t = false := by
 obtain rfl : f = 3 := Option.some.inj ((show Tryz.prog.funcNamed "tollgate/tollgatelaw23.MailMore" = some 3 by kernel_rfl).symm.trans hf) |>.symm
 obtain rfl : fn = Tryz.f3 := (Option.some.inj (Tryz.func3.symm.trans hfn)).symm
 refine ⟨by kernel_rfl, fun j t ht => ?_⟩
 rw [Tryz.params3] at ht
 match j with
 | 0 => obtain rfl : 22 = t := Option.some.inj ht; show Tryz.prog.wantsStandIn 22 = false; kernel_rfl
 | 1 => obtain rfl : 23 = t := Option.some.inj ht; show Tryz.prog.wantsStandIn 23 = false; kernel_rfl
 | 2 => obtain rfl : 26 = t := Option.some.inj ht; show Tryz.prog.wantsStandIn 26 = false; kernel_rfl
 | j + 3 => simp at ht
theorem card : Rows.MailMoreCardSaid :=
 Claim7.holds_tied_plain_at .later [] _ _ _ _ tO (fun _ h => by cases h) (by kernel_rfl) (fun _ h => by cases h) mailMore_row_tie rfl ⟨rfl, rfl⟩ (by kernel_rfl) rfl plain (by kernel_rfl)
#print axioms card
end Go.Proofs.YtaheakjfkpkefaaGreatDoor.mailMore
