/- Lemmas that the last text rests on. Condition: each says its own. -/
import Derived.Test.YtjaocmocdhckaaaGreatDoorZEv2
set_option maxHeartbeats 16000000
set_option maxRecDepth 100000
namespace Go.Proofs.YtjaocmocdhckaaaGreatDoor
open Go.RowKit
open Tryz
def evX (vars : List Bd) : Xn → Vl × Int
 | .un o a => evW (.un o a) vars (evX vars a) (zeroVl, 0)
 | .bin o a b => evW (.bin o a b) vars (evX vars a) (evX vars b)
 | .zero => evW .zero vars (zeroVl, 0) (zeroVl, 0)
 | .lit v => evW (.lit v) vars (zeroVl, 0) (zeroVl, 0)
 | .var s => evW (.var s) vars (zeroVl, 0) (zeroVl, 0)
def evK (vars : List Bd) (n : Xn) (i : Nat) : Vl × Int := match n.kids[i]? with
 | some a => evX vars a
 | none => (zeroVl, 0)
theorem qV (vars : List Bd) (n : Xn) : evX vars n = evW n vars (evK vars n 0) (evK vars n 1) := by cases n <;> rfl
theorem kM {n : Xn} (h : chkX n = true) (h1 : ¬ (n.op.toNat : Int) = 1) (h2 : ¬ (n.op.toNat : Int) = 2) (h5 : ¬ (n.op.toNat : Int) = 3) (h6 : ¬ (n.op.toNat : Int) = 4) : 1 < n.nk := by
 rw [QU] at h
 have h3 := aO h
 unfold NA at h3
 split at h3
 ·omega
 ·rename_i h4
  have h5 := odf (CP (Bool.eq_false_iff.2 h4)).1
  split at h3
  ·rename_i h6
   have := odt h6
   omega
  ·split at h3
   ·rename_i h7
    have := odt h7
    omega
   ·omega
theorem sm_kid {k : Nat} {n a : Xn} (h : n.sm k) (ha : a ∈ n.kids) : a.sm k := by
 cases n with
 | zero => simp [Xn.kids] at ha
 | lit v => simp [Xn.kids] at ha
 | var s => simp [Xn.kids] at ha
 | un o b =>
  simp only [Xn.kids, List.mem_singleton] at ha
  subst ha; exact h
 | bin o b c =>
  simp only [Xn.kids, List.mem_cons, List.not_mem_nil, or_false] at ha
  rcases ha with rfl | rfl
  ·exact h.1
  ·exact h.2
theorem VQ {v : Vl} (h : chk v = 0) : v.text.length ≤ 1048576 := by
 unfold chk at h
 split at h
 ·rename_i hv
  unfold vOk at hv
  repeat' split at hv
  all_goals first
   | (simp only [Bool.and_eq_true, decide_eq_true_eq] at hv; obtain ⟨_, h2⟩ := hv; rw [h2]; decide)
   | (simp only [Bool.and_eq_true, decide_eq_true_eq] at hv; omega)
   | cases hv
 ·cases h
def Tx (v : Vl × Int) : Prop := v.1.text = []
theorem JX {c : Prop} [Decidable c] {x y : Vl × Int} (h1 : Tx x) (h2 : Tx y) : Tx (if c then x else y) := by
 by_cases h : c
 ·rw [if_pos h]; exact h1
 ·rw [if_neg h]; exact h2
theorem IA (n : Int) (ok : Bool) : Tx (L5 n ok) := JX rfl rfl
theorem TD (b : Bool) (e : Int) : Tx (UB b e) := JX rfl rfl
def Pt (v : Vl × Int) : Prop := v.2 = 0 → v.1.text.length ≤ 1048576
theorem G1 {c : Prop} [Decidable c] {x y : Vl × Int} (h1 : c → Pt x) (h2 : ¬ c → Pt y) : Pt (if c then x else y) := by
 by_cases h : c
 ·rw [if_pos h]; exact h1 h
 ·rw [if_neg h]; exact h2 h
theorem HI {x : Vl × Int} (h : Tx x) : Pt x := fun _ => by rw [h]; decide
theorem R0 (a b : Vl) : Tx (L8 a b) := JX rfl (IA _ _)
theorem nd {x : Int} (h : ¬ (!decide (x = (0 : Int))) = true) : x = 0 := by simpa using h
theorem jV (k : UInt8) (a b : Vl) : Pt (doP k a b) := by
 have e : ∀ x, Tx (S2 a b x) := fun x => JX rfl (TD _ _)
 have l : ∀ a b x, Tx (N1 a b x) := fun a b x => TD _ _
 have ad : Tx (R6 a b) := JX rfl (IA _ _)
 have mu : Tx (T9 a b) := JX rfl (IA _ _)
 have di : Tx (R3 a b) := JX rfl (JX (IA _ _) (IA _ _))
 have mo : Tx (R1 a b) := JX rfl (JX (IA _ _) (IA _ _))
 have av : Pt (YY a b) := G1 (fun _ => HI ad) (fun _ => G1 (fun _ => HI rfl) (fun h _ => VQ (nd h)))
 exact G1 (fun _ => HI (e _)) fun _ => G1 (fun _ => HI (e _)) fun _ => G1 (fun _ => HI (l _ _ _)) fun _ => G1 (fun _ => HI (l _ _ _)) fun _ => G1 (fun _ => HI (l _ _ _)) fun _ => G1 (fun _ => HI (l _ _ _)) fun _ => G1 (fun _ => av) fun _ => G1 (fun _ => HI (R0 _ _)) fun _ => G1 (fun _ => HI mu) fun _ => G1 (fun _ => HI di) fun _ => G1 (fun _ => HI mo) fun _ => HI rfl
theorem ME (n : Xn) (vars : List Bd) (ra rb : Vl × Int) (hs : n.vl.text.length ≤ 1048576) (ha : Pt ra) (hb : Pt rb) : Pt (evW n vars ra rb) := by
 unfold evW
 refine G1 (fun _ _ => hs) (fun _ => G1 (fun _ => G1 (fun _ => HI rfl) (fun _ => G1 (fun _ => HI rfl) (fun h _ => VQ (nd h)))) (fun _ => G1 (fun _ => HI rfl) (fun hra => ?_)))
 have A : Pt (ra.1, 0) := fun _ => ha (nd hra)
 have B : ¬ (!decide (rb.2 = (0 : Int))) = true → Pt (rb.1, 0) := fun h _ => hb (nd h)
 have D := jV n.op ra.1 rb.1
 have S := HI (R0 ⟨1, 0, false, []⟩ ra.1)
 repeat' (first
  | exact D
  | exact S
  | refine G1 (fun _ => ?_) (fun _ => ?_))
 all_goals first
  | exact HI rfl
  | exact A
  | exact B (by assumption)
theorem jQ (vars : List Bd) : ∀ n : Xn, n.sm 1048576 → Pt (evX vars n) := by
 have z : Pt (zeroVl, (0 : Int)) := HI rfl
 intro n
 induction n with
 | zero => intro h; exact ME _ _ _ _ (Xn.sm_vl h) z z
 | lit v => intro h; exact ME _ _ _ _ (Xn.sm_vl h) z z
 | var s => intro h; exact ME _ _ _ _ (Xn.sm_vl h) z z
 | un o a ih => intro h; exact ME _ _ _ _ (Xn.sm_vl h) (ih h) z
 | bin o a b ih1 ih2 => intro h; exact ME _ _ _ _ (Xn.sm_vl h) (ih1 h.1) (ih2 h.2)
theorem X4 {vars : List Bd} {n : Xn} (i : Nat) (hs : n.sm 1048576) : Pt (evK vars n i) := by
 unfold evK
 split
 ·rename_i a ha
  exact jQ vars a (sm_kid hs (List.mem_of_getElem? ha))
 ·exact HI rfl
theorem L4 (A0 : Option Addr) (n0 c0 : Nat) (f1 : FuncId) (u1 v1 : Array Value) (a2 : Option Nat) : prog.built 274 [(0, .slice A0 n0 c0), (1, .func (.func f1) u1 v1), (2, .map a2)] = some #[.slice A0 n0 c0, .func (.func f1) u1 v1, .map a2] := by kernel_rfl
theorem nZ (gr gm : Nat) (vc : Nat) (vars : List Bd) (hvl : vars.length ≤ 4611686018427387904) (hok : BdOk vars) : ∀ (n : Xn) (A : Option Addr) (F : List Nat) (V : Option Addr) (w : World), n.AtL 75 w A F → chkX n = true → n.sm 1048576 → Rd w V (vars.length * 5) (AH Bd.cells vars) → Blk w gr 274 [.slice V vars.length vc, .func (.func 205) #[] #[], .map (some gm)] → MpU w gm MJ → Lay0 w →
 Calls prog 221 #[pg gr, .agg (n.cells A).toArray] w (CG w (.tuple #[.agg (Vl.cells (evX vars n).1).toArray, AJ (evX vars n).2])) := by
 refine Xn.ind fun n ih A F V w hA hc hs hV hb hm hY => ?_
 obtain ⟨L, hL, hk, hR, hq⟩ := hA.kids
 have h1 : n.cells A = M6 n A L.length := by rw [hk]; rfl
 have hk0 : ∀ (i : Nat) (q : Xq), L[i]? = some q → n.kids[i]? = some q.1 := fun i q h => by rw [← hL, List.getElem?_map, h]; rfl
 have hkm : ∀ (i : Nat) (q : Xq), L[i]? = some q → q.1 ∈ n.kids := fun i q h => List.mem_of_getElem? (hk0 i q h)
 rw [h1, qV vars n]
 refine qU n A gr gm V vc vars L _ _ w hvl hok hV hb hm hY hR (fun h3 h4 => by rw [hk]; exact aN hc h3 h4) (fun h3 h4 h5 h6 => by rw [hk]; exact kM hc h3 h4 h5 h6) (X4 0 hs) (X4 1 hs) ?_ ?_
 ·intro q hx W hW
  obtain ⟨F', hF'⟩ := hq q (List.mem_of_getElem? hx)
  have := ih q.1 (hkm 0 q hx) q.2 F' V W (hF'.fr0 hW) (SC hc (hkm 0 q hx)) (sm_kid hs (hkm 0 q hx)) (hV.fr0 hW) (hb.fr0 hW) (hm.fr0 hW) (hY.fr0 hW)
  rwa [show evK vars n 0 = evX vars q.1 by unfold evK; rw [hk0 0 q hx]]
 ·intro q hx W hW
  obtain ⟨F', hF'⟩ := hq q (List.mem_of_getElem? hx)
  have := ih q.1 (hkm 1 q hx) q.2 F' V W (hF'.fr0 hW) (SC hc (hkm 1 q hx)) (sm_kid hs (hkm 1 q hx)) (hV.fr0 hW) (hb.fr0 hW) (hm.fr0 hW) (hY.fr0 hW)
  rwa [show evK vars n 1 = evX vars q.1 by unfold evK; rw [hk0 1 q hx]]
def rkP (n : Xn) (vars : List Bd) : Vl × Int := (if (!(chkX n)) = true then ((⟨0, 0, false, []⟩ : Vl), 1) else (((evX vars n).1), (evX vars n).2))
theorem bT (n : Xn) (A : Option Addr) (F : List Nat) (V : Option Addr) (vc : Nat) (vars : List Bd) (w : World) (hvl : vars.length ≤ 4611686018427387904) (hok : BdOk vars) (hV : Rd w V (vars.length * 5) (AH Bd.cells vars)) (hA : n.AtL 75 w A F) (hs : n.sm 1048576) (hY : Lay0 w) :
 Calls prog 204 #[.agg (n.cells A).toArray, .slice V vars.length vc, .func (.func 205) #[] #[]] w (CG w (.tuple #[.agg (Vl.cells (rkP n vars).1).toArray, AJ (rkP n vars).2])) := by
 refine C5 func204 ntmps204 rfl fun M => srg (CR M rfl rfl fun g3 w1 hg3 M => DC M rfl BR fun g6 w2 hg6 M => AY rfl (AF (srg (CW M 1 rfl rfl underlying75 AZ rfl (D4 M 10 rfl rfl call155 (XG n A F _ (hA.fr0 M.fr) hs (hY.fr0 M.fr).utf) fun w3 M => yb rfl ?_)))))
 refine nq (AL rfl (fun h11 => ?_) (fun h11 => ?_))
 ·exact srg (ya rfl (BA (parts := []) rfl rfl (C8)) (C4 M 0 rfl rfl AC rfl fun w4 M => yb rfl (gnr (AB (B9 rfl rfl (M.rdBlk 0 rfl rfl) underlying45 rfl AC rfl ⟨by rw [rkP, if_pos h11] <;> rfl, M.fr⟩)))))
 ·have h11p := (BQ h11)
  refine AI (AD (AQ rfl (yb rfl (cl 15 rfl (AP rfl rfl call220) (oH _) ?_))))
  rintro _ w5 ⟨gm, rfl, hm, hnm, hfw5⟩
  refine ⟨_, rfl, ?_⟩
  have M := M.push hfw5 (As.mpU gm MJ) hm (fun g hg => by simp only [As.mpU, List.mem_singleton] at hg; subst hg; exact hnm)
  refine ya rfl (BA (parts := [(0, _), (1, _), (2, _)]) rfl rfl (L4 _ _ _ _ _ _ _)) (E3 M (AA rfl) rfl rfl 274 rfl rfl ([.slice V vars.length vc, .func (.func 205) #[] #[], .map (some gm)]) rfl fun g17 w6 hg17 M => AY rfl (AQ rfl (CW M 3 rfl rfl underlying75 AZ rfl (D4 M 20 rfl rfl call221 (nZ g17 gm vc vars hvl hok n A F V _ (hA.fr0 M.fr) (by simpa using h11) hs (hV.fr0 M.fr) (M.blk 0 rfl) (M.ok 1 _ rfl) (hY.fr0 M.fr)) fun w7 M => BM rfl rfl (C4 M 2 rfl rfl AC rfl fun w8 M => yb rfl ?_)))))
  exact gnr (B9 rfl rfl (M.rdBlk 2 rfl rfl) underlying45 rfl AC rfl ⟨by rw [rkP, AT h11] <;> rfl, M.fr⟩)
theorem jP (n : Xn) (A : Option Addr) (F : List Nat) (V : Option Addr) (vc : Nat) (vars : List Bd) (w : World) (hvl : vars.length ≤ 4611686018427387904) (hok : BdOk vars) (hV : Rd w V (vars.length * 5) (AH Bd.cells vars)) (hA : n.AtL 75 w A F) (hs : n.sm 1048576) (hY : Lay0 w) :
 Calls prog 189 #[.agg (n.cells A).toArray, .slice V vars.length vc] w (CG w (.tuple #[.agg (Vl.cells (rkP n vars).1).toArray, AJ (rkP n vars).2])) := by
 refine C5 func189 ntmps189 rfl fun M => srg (CR M rfl rfl fun g2 w1 hg2 M => DC M rfl BR fun g4 w2 hg4 M => AY rfl (srg (CW M 1 rfl rfl underlying75 AZ rfl (yb rfl (D4 M 8 rfl rfl call204 (bT n A F V vc vars _ hvl hok (hV.fr0 M.fr) (hA.fr0 M.fr) hs (hY.fr0 M.fr)) fun w3 M => yb rfl ?_)))))
 exact yb rfl (C4 M 0 rfl rfl AC rfl fun w4 M => yb rfl (gnr (B9 rfl rfl (M.rdBlk 0 rfl rfl) underlying45 rfl AC rfl ⟨rfl, M.fr⟩)))
def evB (n : Xn) (vars : List Bd) : Bool × Int := (if (!decide ((rkP n vars).2 = (0 : Int))) = true then (false, (rkP n vars).2) else (if (!decide ((((rkP n vars).1).kind.toNat : Int) = (2 : Int))) = true then (false, 90) else (((rkP n vars).1).bool, 0)))
theorem d6 (n : Xn) (A : Option Addr) (F : List Nat) (V : Option Addr) (vc : Nat) (vars : List Bd) (w : World) (hvl : vars.length ≤ 4611686018427387904) (hok : BdOk vars) (hV : Rd w V (vars.length * 5) (AH Bd.cells vars)) (hA : n.AtL 75 w A F) (hs : n.sm 1048576) (hY : Lay0 w) :
 Calls prog 166 #[.agg (n.cells A).toArray, .slice V vars.length vc] w (CG w (.tuple #[.bool (evB n vars).1, AJ (evB n vars).2])) := by
 refine C5 func166 ntmps166 rfl fun M => srg (CR M rfl rfl fun g2 w1 hg2 M => yb rfl (AY rfl (srg (CW M 0 rfl rfl underlying75 AZ rfl (yb rfl (D4 M 11 rfl rfl call189 (jP n A F V vc vars _ hvl hok (hV.fr0 M.fr) (hA.fr0 M.fr) hs (hY.fr0 M.fr)) fun w2 M => BM rfl rfl ?_))))))
 refine yb rfl (DC M rfl BR fun g6 w3 hg6 M => C4 M 0 rfl rfl AC rfl fun w4 M => AY rfl (AF (AS (AQ rfl (DA rfl rfl (yb rfl (AR ?_)))))))
 refine AD (AL rfl (fun h14 => ?_) (fun h14 => ?_))
 ·exact AQ rfl (BM rfl rfl (gnr (AN (AB (CI rfl rfl rfl ⟨by rw [evB, if_pos h14] <;> rfl, M.fr⟩)))))
 ·refine AQ rfl (BC M 0 rfl rfl rfl (DA rfl rfl (AY rfl (AL rfl (fun h18 => ?_) (fun h18 => ?_)))))
  ·exact AQ rfl (yb rfl (gnr (AN (AB (CI rfl rfl rfl ⟨by rw [evB, AT h14, if_pos h18] <;> rfl, M.fr⟩)))))
  ·exact AI (AE (AD (AQ rfl (BC M 0 rfl rfl rfl (BM rfl rfl (gnr (CI rfl rfl rfl ⟨by rw [evB, AT h14, AT h18] <;> rfl, M.fr⟩)))))))
end Go.Proofs.YtjaocmocdhckaaaGreatDoor
