/- Lemmas that the last text rests on. Condition: each says its own. -/
import Derived.Test.YtjaocmocdhckaaaGreatDoorZMw11
set_option maxHeartbeats 16000000
set_option maxRecDepth 100000
namespace Go.Proofs.YtjaocmocdhckaaaGreatDoor
open Go.RowKit
def smS : El := ⟨[115], [], 1, [], [], [], 0, [], [], 0, 0⟩
def smU : El := ⟨[117], [], 3, [], [], [], 0, [], [], 0, 0⟩
def smE : El := ⟨[101], [], 2, [], [], [], 0, [], [], 0, 0⟩
def smM : Md := ⟨[112], [], [], [smS, smU, smE], [⟨[102], [115], [117], []⟩, ⟨[103], [117], [101], []⟩]⟩
def smT : Tk := ⟨2, [117], [], 5, 0, [], 0, 0, 0⟩
def smI : In := ⟨1, [112], 1, [], [smT]⟩
theorem fU : LB smM = true := by kernel_rfl
theorem ZI : MdOk smM := by
 refine ⟨by decide, by decide, ⟨by decide, fun x hx => (by cases hx), fun x hx => (by cases hx)⟩, by decide, by decide, by decide, fun x hx => ?_, fun x hx => ?_⟩
 ·have : x = smS ∨ x = smU ∨ x = smE := by simpa [smM] using hx
  rcases this with rfl | rfl | rfl <;> constructor <;> decide
 ·have : x = ⟨[102], [115], [117], []⟩ ∨ x = ⟨[103], [117], [101], []⟩ := by simpa [smM] using hx
  rcases this with rfl | rfl <;> constructor <;> decide
theorem oS : Rl smM := oT fU
theorem m9 {c : CrA} (Z : Cz smM c) : GD smM c smI 2 6 = true ∧ J6 smM c smT [] = ([⟨[117], 0, [], [], 0⟩], 0) ∧ DO smM c smT [117] = ([103], [[117, 33]], true) ∧ c.atf (c.flf [102]).tg = smU ∧ c.atf (c.flf [103]).tg = smE ∧ c.outs [115] = [[102]] ∧ (c.atf [117]).tries = 0 := by
 obtain ⟨eA, eB, eI, eO, eL, eM, eC⟩ := Z
 cases c
 dsimp only at eA eB eI eO eL eM eC
 subst eA eB eI eO eL eM eC
 refine ⟨by rfl, by rfl, by rfl, by rfl, by rfl, by rfl, by rfl⟩
theorem gG {m : Md} {c : CrA} {vs : List Bd} {σ0 τ1 : Mo} {a0 : Ar} (h0 : σ0.on = [a0]) (hP : ∀ b τ', Pd m c vs σ0 0 a0 (IP c a0) b τ' → τ' = τ1) (h1 : τ1.on = []) {σ' : Mo} (h : Rn m c vs σ0 σ') : σ' = σ0 ∨ σ' = τ1 := by
 induction h with
 | refl => exact .inl rfl
 | step _ hi hs hp ih =>
  rename_i τ τ' i a b _
  rcases ih with rfl | rfl
  ·rw [h0] at hi
   cases i with
   | succ i => simp at hi
   | zero =>
    simp only [List.getElem?_cons_zero, Option.some.injEq] at hi
    subst hi
    exact .inr (hP b τ' hp)
  ·rw [h1] at hi; cases hi
def smA : Ar := ⟨[102], 1, 0, [], false⟩
def smD : Ar := ⟨[102], 1, 0, [117], false⟩
def smB : Ar := ⟨[103], 1, 0, [], false⟩
theorem i8 {c : CrA} {on : List Ar} {a : Ar} {x : El} (hx : IP c a = x) (hs : a.stops = false) (hk : x.kind.toNat ≠ 6) : ¬ Stl c on a := fun h => by
 rcases h with h | h
 ·rw [hs] at h; cases h
 ·rw [hx] at h; exact hk h.1
theorem fV {c : CrA} (Z : Cz smM c) {x : El} (hx : x ∈ smM.els) (hk : x.kind.toNat = 1) {e : Ending} {w2 : World} (h : MvD smM c ⟨0 + 1, smM.id, 0, [], []⟩ [] (((c.outs x.id)[0]?).getD []) [x.id] (0 + 1) 5 e w2) : ∃ V vc T tc A fc, e = .returned (.tuple #[.agg #[AJ 1, str [112], .int .u8 1, .slice V 0 vc, .slice T 1 tc, AJ 2, .slice A 2 fc], AJ 0]) ∧ Rd w2 T (1 * 9) (AH Tk.cells [smT]) ∧ Rd w2 A (2 * 1) (AH BY [[115], [117, 43]]) := by
 obtain ⟨_, _, _, hu, _, ho, ht⟩ := m9 Z
 have hx' : x = smS := by
  have : x = smS ∨ x = smU ∨ x = smE := by simpa [smM] using hx
  rcases this with rfl | rfl | rfl
  ·rfl
  ·exact absurd hk BU
  ·exact absurd hk BU
 subst hx'
 have hfl : (((c.outs smS.id)[0]?).getD []) = [102] := by rw [show smS.id = [115] from rfl, ho]; rfl
 rw [hfl] at h
 have hel : IP c smA = smU := hu
 have hrn : ∀ σ', Rn smM c [] (I5 [] [102] [smS.id]) σ' → σ' = I5 [] [102] [smS.id] ∨ σ' = ⟨[], [smD], [[115], [117, 43]], 1⟩ := fun σ' hr => gG (a0 := smA) rfl (fun b τ' hp => by
  rw [hel] at hp
  rcases hp with ⟨_, _, rfl⟩ | ⟨h, _⟩ | ⟨h, _⟩ | ⟨h, _⟩ | ⟨h, _⟩
  ·rfl
  all_goals exact absurd h BU) rfl hr
 have hst : ¬ SO c (I5 [] [102] [smS.id]) := fun hr => i8 hel rfl BU (hr 0 smA rfl)
 rcases h with ⟨_, ⟨σ', hR, hf⟩ | ⟨σ', ls, hR, hs, hp, hf⟩⟩ | ⟨σ', ls, V', vc', T', tc', A', fc', rfl, hR, _, hs, hp, _, _, h2, h3⟩
 ·rcases hrn σ' hR with rfl | rfl <;> exact absurd hf BU
 ·rcases hrn σ' hR with rfl | rfl
  ·exact absurd hs hst
  ·have hl : ls = [smD] := List.perm_singleton.1 hp
   subst hl
   exact absurd hf BU
 ·rcases hrn σ' hR with rfl | rfl
  ·exact absurd hs hst
  ·have hl : ls = [smD] := List.perm_singleton.1 hp
   subst hl
   have hL : ES c [] [smD] (0 + 1) 5 = [smT] := by
    show [(⟨2, [117], [], 5, (c.atf [117]).tries, [], 0, 0, 0⟩ : Tk)] = _
    rw [ht]; rfl
   rw [hL] at h2 ⊢
   exact ⟨V', vc', T', tc', A', fc', rfl, h2, h3⟩
theorem m8 {c : CrA} (Z : Cz smM c) {j : Nat} {y : Tk} (hy : smI.toks[j]? = some y) {e : Ending} {w2 : World} (h : MvD smM c smI (smI.toks.eraseIdx j) (DO smM c y [117]).1 (DO smM c y [117]).2.1 2 6 e w2) : ∃ V vc T tc A fc, e = .returned (.tuple #[.agg #[AJ 1, str [112], .int .u8 2, .slice V 0 vc, .slice T 0 tc, AJ 2, .slice A 2 fc], AJ 0]) ∧ Rd w2 A (2 * 1) (AH BY [[117, 33], [101]]) := by
 obtain ⟨_, _, hc, _, hu, _, _⟩ := m9 Z
 cases j with
 | succ j => simp [smI] at hy
 | zero =>
  obtain rfl : smT = y := by simpa [smI] using hy
  rw [hc] at h
  have hel : IP c smB = smE := hu
  have hrn : ∀ σ', Rn smM c [] (I5 [] [103] [[117, 33]]) σ' → σ' = I5 [] [103] [[117, 33]] ∨ σ' = ⟨[], [], [[117, 33], [101]], 1⟩ := fun σ' hr => gG (a0 := smB) rfl (fun b τ' hp => by
   rw [hel] at hp
   rcases hp with ⟨h, _⟩ | ⟨h, _⟩ | ⟨_, _, rfl⟩ | ⟨h, _⟩ | ⟨h, _⟩
   ·rcases h with h | h | h | h <;> exact absurd h BU
   ·exact absurd h BU
   ·rfl
   all_goals exact absurd h BU) rfl hr
  have hst : ¬ SO c (I5 [] [103] [[117, 33]]) := fun hr => i8 hel rfl BU (hr 0 smB rfl)
  rcases h with ⟨_, ⟨σ', hR, hf⟩ | ⟨σ', ls, hR, hs, hp, hf⟩⟩ | ⟨σ', ls, V', vc', T', tc', A', fc', rfl, hR, _, hs, hp, _, _, h2, h3⟩
  ·rcases hrn σ' hR with rfl | rfl <;> exact absurd hf BU
  ·rcases hrn σ' hR with rfl | rfl
   ·exact absurd hs hst
   ·have hl : ls = [] := List.perm_nil.1 hp
    subst hl
    exact absurd hf BU
  ·rcases hrn σ' hR with rfl | rfl
   ·exact absurd hs hst
   ·have hl : ls = [] := List.perm_nil.1 hp
    subst hl
    exact ⟨V', vc', T', tc', A', fc', rfl, h3⟩
open Tryz
structure MdStr (m : Md) : Prop where
 id : (m.id.length : Int) < 4611686018427387904
 nm : (m.nm.length : Int) < 4611686018427387904
 vars : BdOk m.vars
 els : ∀ x ∈ m.els, ElOk x
 fls : ∀ x ∈ m.fls, FlOk x
def iM (m : Md) : Bool := ((decide ((70 : Int) < ((m.els.length : Nat) : Int))) || (decide ((140 : Int) < ((m.fls.length : Nat) : Int)))) || (decide ((20 : Int) < ((m.vars.length : Nat) : Int)))
theorem MdStr.ok {m : Md} (h : MdStr m) (hl : iM m = false) : MdOk m := by
 have h1 := odf (CP (CP hl).1).1
 have h2 := odf (CP (CP hl).1).2
 have h3 := odf (CP hl).2
 exact ⟨h.id, h.nm, h.vars, by omega, by omega, by omega, h.els, h.fls⟩
theorem OK {w : World} {A : Option Addr} : Rd w A 0 [] := ⟨rfl, fun h => absurd h (Nat.lt_irrefl 0)⟩
theorem HG (a0 : List UInt8) (a2 : Int) : prog.built 69 [(0, str a0), (2, .int .u8 a2)] = some #[str a0, str [], .int .u8 a2, str [], str [], str [], .int .u8 0, str [], str [], AJ 0, AJ 0] := by kernel_rfl
theorem JV (a0 : List UInt8) (a1 : List UInt8) (a2 : List UInt8) : prog.built 72 [(0, str a0), (1, str a1), (2, str a2)] = some #[str a0, str a1, str a2, str []] := by kernel_rfl
theorem NY (a0 : List UInt8) (A3 : Option Addr) (n3 c3 : Nat) (A4 : Option Addr) (n4 c4 : Nat) : prog.built 26 [(0, str a0), (3, .slice A3 n3 c3), (4, .slice A4 n4 c4)] = some #[str a0, str [], .slice none 0 0, .slice A3 n3 c3, .slice A4 n4 c4] := by kernel_rfl
theorem QJ : (prog.info? 69).map (fun i => (i.zero, i.size)) = some (some (.agg #[str [], str [], .int .u8 0, str [], str [], str [], .int .u8 0, str [], str [], AJ 0, AJ 0]), 11) := by kernel_rfl
theorem fT (w : World) :
 Calls prog 12 #[] w fun e w' => ∃ a, e = .returned (.agg (Md.cells smM a).toArray) ∧ MdIn w' smM a ∧ Fr0 w w' := by
 refine C5 func12 ntmps12 rfl fun M => srg (DC M rfl zr_api_Model fun g0 w1 hg0 M => N2 (ya rfl (BA (parts := [(0, _), (2, _)]) rfl rfl (HG _ _)) (ya rfl (BA (parts := [(0, _), (2, _)]) rfl rfl (HG _ _)) (ya rfl (BA (parts := [(0, _), (2, _)]) rfl rfl (HG _ _)) (DF M (AA rfl) rfl rfl [.agg #[str [115], str [], .int .u8 1, str [], str [], str [], .int .u8 0, str [], str [], AJ 0, AJ 0], .agg #[str [117], str [], .int .u8 3, str [], str [], str [], .int .u8 0, str [], str [], AJ 0, AJ 0], .agg #[str [101], str [], .int .u8 2, str [], str [], str [], .int .u8 0, str [], str [], AJ 0, AJ 0]] ([str [115], str [], .int .u8 1, str [], str [], str [], .int .u8 0, str [], str [], AJ 0, AJ 0, str [117], str [], .int .u8 3, str [], str [], str [], .int .u8 0, str [], str [], AJ 0, AJ 0, str [101], str [], .int .u8 2, str [], str [], str [], .int .u8 0, str [], str [], AJ 0, AJ 0]) rfl rfl rfl rfl underlying23 QJ rfl rfl (by intro v hv; simp only [List.mem_cons, List.not_mem_nil, or_false] at hv; rcases hv with rfl | rfl | rfl <;> rfl) rfl fun g4 w2 hg4 M => ya rfl (BA (parts := [(0, _), (1, _), (2, _)]) rfl rfl (JV _ _ _)) (ya rfl (BA (parts := [(0, _), (1, _), (2, _)]) rfl rfl (JV _ _ _)) ?_))))))
 exact DF M (AA rfl) rfl rfl [.agg #[str [102], str [115], str [117], str []], .agg #[str [103], str [117], str [101], str []]] ([str [102], str [115], str [117], str [], str [103], str [117], str [101], str []]) rfl rfl rfl rfl underlying24 KY rfl rfl (by intro v hv; simp only [List.mem_cons, List.not_mem_nil, or_false] at hv; rcases hv with rfl | rfl <;> rfl) rfl fun g7 w3 hg7 M => ya rfl (BA (parts := [(0, _), (3, _), (4, _)]) rfl rfl (NY _ _ _ _ _ _ _)) (C4 M 2 rfl rfl C0 rfl fun w4 M => gnr (FB rfl rfl (M.rdBlk 2 rfl rfl) underlying26 rfl C0 ⟨⟨none, 0, (some ⟨g4, 0, none⟩), 3, (some ⟨g7, 0, none⟩), 2⟩, rfl, ⟨OK, M.rdBlk 1 rfl rfl, M.rdBlk 0 rfl rfl⟩, M.fr⟩))
theorem eZ (l k : List (List UInt8)) (A B : Option Addr) (c d : Nat) (w : World) (hl : l.length ≤ 1000000) (hA : Rd w A (l.length * 1) (AH BY l)) (hB : Rd w B (k.length * 1) (AH BY k)) :
 Calls prog 14 #[.slice A l.length c, .slice B k.length d] w (CG w (.bool (decide (l = k)))) := by
 refine C5 func14 ntmps14 rfl fun M => srg (AY rfl (AF (AQ rfl (ya rfl (C3 rfl rfl (sl rfl)) (yb rfl (ya rfl (C3 rfl rfl (sl rfl)) (DA rfl rfl (nq ?_))))))))
 refine AL rfl (fun h10 => ?_) (fun h10 => ?_)
 ·exact AQ rfl (gnr (AB (gr1 rfl ⟨by rw [decide_eq_false (fun h => by have hq := congrArg List.length h; simp [hq] at h10)], M.fr⟩)))
 ·have h10p := (odt (BQ h10))
  have hlk : l.length = k.length := by have := BQ h10; have := odt this; omega
  refine AI (AD (AF (srg (AY rfl (AS (flp [1, 0] (fun ze e wr mz => ∃ (i : Nat), e = (5, AJ ((i : Nat) : Int)) :: ze ∧ Mem w B0 [] wr ∧ (i ≤ l.length) ∧ (l.take i = k.take i) ∧ mz = l.length - i) ⟨0, rfl, M, Nat.zero_le _, rfl, rfl⟩ ?_))))))
  rintro _ w1 _ ⟨i, rfl, M, hi, hE, rfl⟩
  refine AF (AQ rfl (yb rfl (ya rfl (C3 rfl rfl (sl rfl)) (CF rfl rfl (nq (AL rfl (fun h14 => ?_) (fun h14 => ?_)))))))
  ·have h14p := (odt h14)
   refine AI (AD (AF (AS (AF (ER CZ gkr ?_)))))
   have M := M.drew
   refine sb rfl (sb rfl ?_)
   obtain ⟨x, hx⟩ := CC (l := l) (i := i) AM
   obtain ⟨b_x, o_x, hA_x⟩ := BI (k := 1) AM (hA.fr0 M.fr) hx
   refine sa rfl (B1 i hA_x rfl rfl rfl (sl rfl) AM) (sd rfl rfl (DQ E0 (hA.fr0 M.fr) hA_x hx 0 rfl) (sb rfl (sb rfl ?_)))
   obtain ⟨y, hy⟩ := CC (l := k) (i := i) AM
   obtain ⟨b_y, o_y, hA_y⟩ := BI (k := 1) AM (hB.fr0 M.fr) hy
   refine sa rfl (B1 i hA_y rfl rfl rfl (sl rfl) AM) (sd rfl rfl (DQ E0 (hB.fr0 M.fr) hA_y hy 0 rfl) (sa rfl (FP rfl rfl rfl) (FA (AD (AL rfl (fun h25 => ?_) (fun h25 => ?_))))))
   ·exact AQ rfl (gnr (AN (AB (AB (AN (AB (gr1 rfl ⟨by rw [decide_eq_false (fun h => by subst h; rw [hx] at hy; injection hy with hy; simp [hy] at h25)], M.fr⟩)))))))
   ·have h25p := (odt (BQ h25))
    refine AI (AE (AD (AK (yb rfl (ya rfl (BO rfl rfl rfl AM) (yb rfl (AR (fag ⟨i + 1, rfl, M, ?_, ?_, rfl⟩))))))))
    ·omega
    ·rw [B4 hx, B4 hy, hE]
     have h25 := BQ h25
     rw [odt h25]
  ·have h14p := (odf h14)
   exact BF (AG (AG (AV (AD (AQ rfl (gnr (gr1 rfl ⟨by rw [decide_eq_true (by rw [List.take_of_length_le AM, List.take_of_length_le AM] at hE; exact hE)], M.fr⟩)))))))
theorem iL (m : Md) (a : MdA) (w : World) :
 Calls prog 6 #[.agg (Md.cells m a).toArray] w (CG w (.bool (iM m))) := by
 refine C5 func6 ntmps6 rfl fun M => srg (CR M rfl rfl fun g1 w1 hg1 M => AY rfl (AQ rfl (BC M 0 rfl rfl rfl (ya rfl (C3 rfl rfl (sl rfl)) (LD rfl rfl (yb rfl (fvm M 5 [2, 1] [(12, .bool ((decide ((70 : Int) < ((m.els.length : Nat) : Int))) || (decide ((140 : Int) < ((m.fls.length : Nat) : Int)))))] ?_ (fun k7 => ?_))))))))
 ·intro w2 M
  refine yb rfl (fvm M 5 [2] [(18, .bool (((decide ((70 : Int) < ((m.els.length : Nat) : Int))) || (decide ((140 : Int) < ((m.fls.length : Nat) : Int)))) || (decide ((20 : Int) < ((m.vars.length : Nat) : Int)))))] ?_ (fun k13 => ?_))
  ·intro w3 M
   exact yb rfl (gnr (gr1 rfl ⟨rfl, M.fr⟩))
  refine AO (d := 13) rfl (fun h13 => ?_) (fun h13 => ?_)
  ·iterate 4 refine yo rfl ?_
   exact yb rfl (k13 M ⟨rfl, (by rw [h13]; rfl), trivial⟩)
  ·exact gyq rfl (CJ M 0 rfl rfl rfl (yd rfl (C3 rfl rfl (sl rfl)) (yd rfl (GC rfl rfl rfl) (yb rfl (k13 M ⟨rfl, (by rw [h13]; rfl), trivial⟩)))))
 refine AO (d := 7) rfl (fun h7 => ?_) (fun h7 => ?_)
 ·iterate 4 refine yo rfl ?_
  exact yb rfl (k7 M ⟨rfl, rfl, (by rw [h7]; rfl), trivial⟩)
 ·exact gyq rfl (CJ M 0 rfl rfl rfl (yd rfl (C3 rfl rfl (sl rfl)) (yd rfl (GC rfl rfl rfl) (yb rfl (k7 M ⟨rfl, rfl, (by rw [h7]; rfl), trivial⟩)))))
end Go.Proofs.YtjaocmocdhckaaaGreatDoor
