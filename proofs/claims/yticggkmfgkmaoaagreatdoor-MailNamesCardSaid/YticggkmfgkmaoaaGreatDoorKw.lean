/- Names that are known to be names. No condition. -/
import Derived.Test.YticggkmfgkmaoaaGreatDoorKv
namespace Go.Proofs.YticggkmfgkmaoaaGreatDoor
open Go.RowKit

noncomputable def memB (l : List UInt8) (L : List (List UInt8)) : Bool := @List.rec (List UInt8) (fun _ => Bool) false (fun x _ ih => bo (byEq l x) true ih) L
theorem memB_ok {l : List UInt8} : ∀ {L : List (List UInt8)}, memB l L = true → l ∈ L
  | [], h => by cases h
  | x :: L, h => by
    have h : bo (byEq l x) true (memB l L) = true := h
    cases hb : byEq l x with
    | true => rw [byEq_ok] at hb; simp [eq_of_beq hb]
    | false => rw [hb, bo_false] at h; simp [memB_ok h]
/-- A function that says yes to these texts. -/
noncomputable def yesK (F : Nat) (L : List (List UInt8)) (rest : CallF) : CallF := fun f args h nx =>
  bo (Nat.beq f F) (match args with
    | [.string s] => bo (memB s.data.toList L) (.ok (.bool true) h nx) (rest f args h nx)
    | _ => rest f args h nx) (rest f args h nx)
theorem yesK_ok {P : Program} {G F : Nat} {L : List (List UInt8)} {rest : CallF} (hk : ∀ l ∈ L, ∀ w, Calls P F #[.string ⟨⟨l⟩⟩] w fun x w' => x = .returned (.bool true) ∧ Fr0 w w') (hr : CallOk P G rest) : CallOk P G (yesK F L rest) := by
  intro f args h nx v h' nx' hm σ w us hvs m
  have old : rest f args h nx = .ok v h' nx' → Calls P f ⟨us⟩ w fun x w' => ∃ σ' u, x = .returned u ∧ VR σ' v u ∧ Tr G σ h.get nx w σ' h'.get nx' w' := fun hm => hr f args h nx v h' nx' hm σ w us hvs m
  unfold yesK at hm
  cases hq : Nat.beq f F with
  | false => rw [hq] at hm; exact old hm
  | true =>
    rw [hq, bo_true] at hm
    obtain rfl := Nat.eq_of_beq_eq_true hq
    split at hm
    · rename_i s
      cases hb : memB s.data.toList L with
      | false => rw [hb] at hm; exact old hm
      | true =>
        rw [hb, bo_true] at hm
        obtain ⟨rfl, rfl, rfl⟩ := ok_inj hm
        obtain ⟨y, vs', rfl, hy, ht⟩ := hvs.inv
        obtain rfl := ht.inv_nil
        obtain rfl := hy.scal_inv rfl
        have hs : s = ⟨⟨s.data.toList⟩⟩ := by obtain ⟨⟨d⟩⟩ := s; rfl
        have := hk _ (memB_ok hb) w
        rw [← hs] at this
        exact this.mono fun x w' ⟨hx, hf⟩ => ⟨σ, .bool true, hx, VR.bool, Tr.of_fr0 m hf⟩
    · exact old hm
/-- The machine says yes to each. -/
noncomputable def allYes (call : CallF) (F G : Nat) (L : List (List UInt8)) : Bool := @List.rec (List UInt8) (fun _ => Bool) true (fun x _ ih => bo (okTrue (call F [.string ⟨⟨x⟩⟩] .lf G)) ih false) L
theorem allYes_ok {P : Program} {G F : Nat} {call : CallF} (hc : CallsOk P G call) (hf : Nat.blt F P.funcs.size = true) : ∀ {L : List (List UInt8)}, allYes call F G L = true → ∀ l ∈ L, ∀ w, Calls P F #[.string ⟨⟨l⟩⟩] w fun x w' => x = .returned (.bool true) ∧ Fr0 w w'
  | [], _, l, hl, _ => by cases hl
  | x :: L, h, l, hl, w => by
    obtain ⟨h1, h2⟩ := bo_inv (show bo (okTrue (call F [.string ⟨⟨x⟩⟩] .lf G)) (allYes call F G L) false = true from h) (by simp)
    rcases List.mem_cons.1 hl with rfl | hl
    · obtain ⟨h', nx', hq⟩ := okTrue_inv h1
      refine (hc.fn F _ .lf G _ h' nx' (blt_lt hf) hq (gSg G) w [.string ⟨⟨l⟩⟩] (.sc _ rfl .nil) (mr0 G w)).mono fun x w' ⟨σ', u, hx, hv, ht⟩ => ?_
      have := hv.scal_inv rfl
      subst this
      exact ⟨hx, ht.os, ht.tape, ht.output, ht.size, fun r hr _ => ht.fr r hr fun id L h => by (rw [Tb.get_lf] at h; cases h)⟩
    · exact allYes_ok hc hf h2 l hl w
/-- Texts of one small letter. -/
def letters : List (List UInt8) := [[115], [116], [101], [102], [103], [112], [97], [98], [99], [100], [104], [105], [106], [107], [120], [121], [122], [109], [110]]
theorem letters_run : allYes (mRun Tryz.prog Tryz.prog.globals.size 100000 (tabK noCall) 60) 25 Tryz.prog.globals.size letters = true := by kernel_rfl
noncomputable def nameK (rest : CallF) : CallF := yesK 25 letters rest
theorem nameK_ok {rest : CallF} (hr : CallOk Tryz.prog Tryz.prog.globals.size rest) : CallOk Tryz.prog Tryz.prog.globals.size (nameK rest) := yesK_ok (allYes_ok (run_ok mixed (tabK_ok noCall_ok)) (by kernel_rfl) letters_run) hr
end Go.Proofs.YticggkmfgkmaoaaGreatDoor
