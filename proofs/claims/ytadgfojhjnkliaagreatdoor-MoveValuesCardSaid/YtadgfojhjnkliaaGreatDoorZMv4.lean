/- Lemmas that the last text rests on. Condition: each says its own. -/
import Derived.Test.YtadgfojhjnkliaaGreatDoorZMv3
set_option maxHeartbeats 16000000
set_option maxRecDepth 100000
namespace Go.Proofs.YtadgfojhjnkliaaGreatDoor
open Go.RowKit
open Tryz
theorem sH {L : List (List UInt8 × Value)} {f : List UInt8 → El} {is : List UInt8 → Bool} {x : El} (h : ∀ k, (CE L k).getD (.agg zeroEl.cells.toArray) = .agg (f k).cells.toArray ∧ (CE L k).isSome = is k) :
 ∀ k, (CE (CV L x.id (.agg (El.cells x).toArray)) k).getD (.agg zeroEl.cells.toArray) = .agg ((if k = x.id then x else f k)).cells.toArray ∧ (CE (CV L x.id (.agg (El.cells x).toArray)) k).isSome = (if k = x.id then true else is k) := fun k => by
 rw [FM]
 by_cases hk : k = x.id
 ·rw [if_pos hk, if_pos hk, if_pos hk]; exact ⟨rfl, rfl⟩
 ·rw [if_neg hk, if_neg hk, if_neg hk]; exact h k
theorem nX {m : Md} {r : List UInt8 → List (List UInt8)} {x : El} (h : ∀ k, (r k).length ≤ m.fls.length) : ∀ k, ((fun k' => if k' = x.id then (BK m.fls x.id).map (fun u : Fl => u.id) else r k') k).length ≤ m.fls.length := fun k => by
 simp only
 split
 ·rw [List.length_map]; exact DM _ _
 ·exact h k
theorem jR {L : List (List UInt8 × Value)} {f : List UInt8 → Fl} {is : List UInt8 → Bool} {x : Fl} (h : ∀ k, (CE L k).getD (.agg zeroFl.cells.toArray) = .agg (f k).cells.toArray ∧ (CE L k).isSome = is k) :
 ∀ k, (CE (CV L x.id (.agg (Fl.cells x).toArray)) k).getD (.agg zeroFl.cells.toArray) = .agg ((if k = x.id then x else f k)).cells.toArray ∧ (CE (CV L x.id (.agg (Fl.cells x).toArray)) k).isSome = (if k = x.id then true else is k) := fun k => by
 rw [FM]
 by_cases hk : k = x.id
 ·rw [if_pos hk, if_pos hk, if_pos hk]; exact ⟨rfl, rfl⟩
 ·rw [if_neg hk, if_neg hk, if_neg hk]; exact h k
def IF (f : Fl) : Bool := if (!decide (f.cond = [])) = true then !(!decide ((C8 f.cond).2.2 = (0 : Int))) else true
theorem TI {f : Fl} (h : (!decide (f.cond = [])) = false) : IF f = true := if_neg (BA h)
theorem RK {f : Fl} (h : (!decide (f.cond = [])) = true) (h2 : (!decide ((C8 f.cond).2.2 = (0 : Int))) = false) : IF f = true := by rw [IF, if_pos h, h2]; rfl
theorem KP {l l' : List Fl} {f : Fl} (h : l.all IF = true) (hl : l' = l ++ [f]) (hf : IF f = true) : l'.all IF = true := by rw [hl, List.all_append, h]; simp [hf]
def OL (m : Md) : Bool := !(!decide ((MG m).2.2 = (0 : Int))) && m.fls.all IF
theorem Y9 {m : Md} (h : (!decide ((MG m).2.2 = (0 : Int))) = true) : OL m = false := by unfold OL; rw [h]; rfl
theorem YA {m : Md} {j : Nat} {f : Fl} (hf : m.fls[j]? = some f) (h : (!decide (f.cond = [])) = true) (h2 : (!decide ((C8 f.cond).2.2 = (0 : Int))) = true) : OL m = false := by
 have : m.fls.all IF = false := by
  rw [List.all_eq_false]
  exact ⟨f, List.mem_of_getElem? hf, by rw [IF, if_pos h, h2]; decide⟩
 unfold OL; rw [this, Bool.and_false]
theorem dK {m : Md} (h : (!decide ((MG m).2.2 = (0 : Int))) = false) (h2 : m.fls.all IF = true) : OL m = true := by unfold OL; rw [h, h2]; rfl
structure CrA where
 a : MdA
 gA : Nat
 gF : Nat
 gI : Nat
 gO : Nat
 gC : Nat
 LA : List (List UInt8 × Value)
 LF : List (List UInt8 × Value)
 LO : List (List UInt8 × Value)
 atf : List UInt8 → El
 isA : List UInt8 → Bool
 flf : List UInt8 → Fl
 isF : List UInt8 → Bool
 outs : List UInt8 → List (List UInt8)
def CrA.cells (m : Md) (c : CrA) : List Value := [str m.id, str m.nm, .slice c.a.V m.vars.length c.a.vc, .slice c.a.E m.els.length c.a.ec, .slice c.a.F m.fls.length c.a.fc, .map (some c.gA), .map (some c.gF), .map (some c.gI), .map (some c.gO), .map (some c.gC)]
structure CourseN (w : World) (m : Md) (gc : Nat) (c : CrA) (F : List Nat) : Prop where
 blk : Blk w gc 60 (c.cells m)
 md : MdN w m c.a F
 A : Mp w c.gA c.LA
 L : Mp w c.gF c.LF
 O : Mp w c.gO c.LO
 getA : ∀ k, (CE c.LA k).getD (.agg zeroEl.cells.toArray) = .agg (c.atf k).cells.toArray
 isA : ∀ k, (CE c.LA k).isSome = c.isA k
 getL : ∀ k, (CE c.LF k).getD (.agg zeroFl.cells.toArray) = .agg (c.flf k).cells.toArray
 isL : ∀ k, (CE c.LF k).isSome = c.isF k
 getO : ∀ k, (CE c.LO k).getD (.slice none 0 0) = .slice (MI (EB c.LO k)) (c.outs k).length (XX (EB c.LO k))
 rdO : ∀ k, Rd w (MI (EB c.LO k)) ((c.outs k).length * 1) (AR C4 (c.outs k))
 inF : gc ∈ F ∧ c.gA ∈ F ∧ c.gF ∈ F ∧ c.gO ∈ F
 inO : ∀ k b off p, MI (EB c.LO k) = some ⟨b, off, p⟩ → b ∈ F
 lenO : ∀ k, (c.outs k).length ≤ m.fls.length
theorem MdN.mono {w : World} {m : Md} {a : MdA} {F F' : List Nat} (h : MdN w m a F) (hF : ∀ x ∈ F, x ∈ F') : MdN w m a F' := ⟨h.md, fun b off p e => hF b (h.V b off p e), fun b off p e => hF b (h.E b off p e), fun b off p e => hF b (h.L b off p e)⟩
theorem CourseN.keep {w w' : World} {m : Md} {gc : Nat} {c : CrA} {F : List Nat} (hk : ∀ g ∈ F, g < w.heap.size → w'.heap[g]? = w.heap[g]?) (h : CourseN w m gc c F) : CourseN w' m gc c F :=
 ⟨(hk gc h.inF.1 h.blk.lt).trans h.blk, h.md.keep hk, KI h.A hk h.inF.2.1, KI h.L hk h.inF.2.2.1, KI h.O hk h.inF.2.2.2, h.getA, h.isA, h.getL, h.isL, h.getO, fun k => GS (h.rdO k) hk (h.inO k), h.inF, h.inO, h.lenO⟩
theorem nR {m : Md} {a' : MdA} {w w' : World} {g31 g25 g26 g27 g28 g29 : Nat} {F0 FO : List Nat} {LA LF LO : List (List UInt8 × Value)} {atf : List UInt8 → El} {isA isF : List UInt8 → Bool} {flf : List UInt8 → Fl} {rO : List UInt8 → List (List UInt8)} {Ls : List As}
 (M : Mem w AB (As.blk g31 60 [str m.id, str m.nm, .slice a'.V m.vars.length a'.vc, .slice a'.E m.els.length a'.ec, .slice a'.F m.fls.length a'.fc, .map (some g25), .map (some g26), .map (some g27), .map (some g28), .map (some g29)] :: As.mdp m a' F0 :: As.mpS g25 LA none :: As.mp g26 LF :: As.rowS g28 LO none rO FO :: Ls) w')
 (h1 : ∀ k, (CE LA k).getD (.agg zeroEl.cells.toArray) = .agg (atf k).cells.toArray) (h2 : ∀ k, (CE LA k).isSome = isA k) (h3 : ∀ k, (CE LF k).getD (.agg zeroFl.cells.toArray) = .agg (flf k).cells.toArray) (h4 : ∀ k, (CE LF k).isSome = isF k) (h5 : ∀ k, (rO k).length ≤ m.fls.length) :
 ∃ gc c F, Ending.returned (.tuple #[pg g31, .int .i64 0]) = .returned (.tuple #[pg gc, .int .i64 0]) ∧ CourseN w' m gc c F ∧ ∀ g ∈ F, w.heap.size ≤ g ∧ g < w'.heap.size := by
 have hR : RowS w' g28 LO none rO FO := M.ok 4 _ rfl
 have hA : MpB w' g25 LA := M.ok 2 _ rfl
 have hO : MpB w' g28 LO := hR.map
 have hv : ∀ k, (CE LO k).getD (.slice none 0 0) = .slice (MI (EB LO k)) (rO k).length (XX (EB LO k)) ∧ Rd w' (MI (EB LO k)) ((rO k).length * 1) (AR C4 (rO k)) ∧ ∀ b off p, MI (EB LO k) = some ⟨b, off, p⟩ → b ∈ FO := fun k => by
  obtain ⟨A, C, e1, e2, e3⟩ := hR.row k
  rw [show (CE LO k).getD (.slice none 0 0) = EB LO k from rfl, e1]
  exact ⟨rfl, e2, e3⟩
 refine ⟨g31, ⟨a', g25, g26, g27, g28, g29, LA, LF, LO, atf, isA, flf, isF, rO⟩, g31 :: g25 :: g26 :: g28 :: (F0 ++ FO), rfl, ⟨M.blk 0 rfl, (M.mdN 1 rfl).mono (fun x hx => by simp [hx]), hA.mp, M.mp 3 rfl, hO.mp, h1, h2, h3, h4, fun k => (hv k).1, fun k => (hv k).2.1, ⟨by simp, by simp, by simp, by simp⟩, fun k b off p e => by simp [(hv k).2.2 b off p e], h5⟩, ?_⟩
 intro g hg
 rcases List.mem_cons.1 hg with rfl | hg
 ·exact M.new0 0 rfl _ (by simp [As.blk])
 ·rcases List.mem_cons.1 hg with rfl | hg
  ·exact M.new0 2 rfl _ (by simp [As.mpS])
  ·rcases List.mem_cons.1 hg with rfl | hg
   ·exact M.new0 3 rfl _ (by simp [As.mp])
   ·rcases List.mem_cons.1 hg with rfl | hg
    ·exact M.new0 4 rfl _ List.mem_cons_self
    ·rcases List.mem_append.1 hg with hg | hg
     ·exact M.new0 1 rfl g hg
     ·exact M.new0 4 rfl g (List.mem_cons_of_mem _ hg)
theorem IH (c0_0 c0_1 c0_2 c0_3 c0_4 : Value) (a1 : Option Nat) (a2 : Option Nat) (a3 : Option Nat) (a4 : Option Nat) (a5 : Option Nat) : prog.built 60 [(0, .agg #[c0_0, c0_1, c0_2, c0_3, c0_4]), (1, .map a1), (2, .map a2), (3, .map a3), (4, .map a4), (5, .map a5)] = some #[c0_0, c0_1, c0_2, c0_3, c0_4, .map a1, .map a2, .map a3, .map a4, .map a5] := by kernel_rfl
theorem HJ : (prog.info? 45).map (·.zero) = some (some (.slice none 0 0)) := by kernel_rfl
theorem qZ (m : Md) (a : MdA) (w : World) (ho : MdOk m) (hM : MdIn w m a) (hY : Lay0 w) :
 Calls prog 6 #[.agg (Md.cells m a).toArray] w fun e w' => ((OL m = true ∧ ∃ gc c F, e = .returned (.tuple #[pg gc, .int .i64 0]) ∧ CourseN w' m gc c F ∧ ∀ g ∈ F, w.heap.size ≤ g ∧ g < w'.heap.size) ∨ (OL m = false ∧ e = .returned (.tuple #[.pointer none, .int .i64 140]))) ∧ Fr0 w w' := by
 have hne := ho.nels
 have hnf := ho.nfls
 refine AK (vs := [_]) func6 rfl ntmps6 rfl ?_
 have M := CK w
 refine A4 (A0 (BD M (A9 rfl) rfl rfl 26 rfl rfl (Md.cells m a) rfl fun g1 w1 hg1 M => yb rfl (yb rfl (A1 (A2 (A4 (A4 (A0 (ya rfl (AN (xs := Md.cells m a) rfl rfl (M.rdBlk 0 rfl rfl) underlying26 rfl BL) (cp M 17 rfl (AF rfl rfl call12) (TZ m a _ ho (hM.fr0 M.fr) (hY.fr0 M.fr)) fun w2 M => ?_))))))))))
 iterate 7 refine yb rfl ?_
 refine A1 (A2 (A4 (A0 (yb rfl (ya rfl (CX rfl rfl rfl) (A1 (A2 (AQ (b := (!decide ((MG m).2.2 = (0 : Int)))) rfl (fun h22 => ?_) (fun h22 => ?_)))))))))
 ·have h22p := (odf (C1 h22))
  exact A4 (A0 (yb rfl (yb rfl (A1 (A2 (AD (AA (BY rfl rfl rfl ⟨.inr ⟨Y9 h22, rfl⟩, M.fr⟩))))))))
 ·have h22p := (odt (C3 h22))
  refine AL (A2 (A4 (A0 (ya rfl (AN (xs := Md.cells m a) rfl rfl (M.rdBlk 0 rfl rfl) underlying26 rfl BL) (cl 24 rfl (AF rfl rfl call13) (mG m a _ ho (hM.fr0 M.fr)) ?_)))))
  rintro _ w3 ⟨a', F0, rfl, hmd, hnw, hfw3⟩
  refine ⟨_, rfl, ?_⟩
  have M := M.push hfw3 (As.mdp m a' F0) hmd hnw
  refine Q2 M (A9 rfl) rfl rfl rfl fun g25 w4 hg25 M => HN M (A9 rfl) rfl rfl rfl fun g26 w5 hg26 M => Q2 M (A9 rfl) rfl rfl rfl fun g27 w6 hg27 M => ?_
  have M := M.toRow 0 rfl
  refine Q2 M (A9 rfl) rfl rfl rfl fun g28 w7 hg28 M => ?_
  have M := M.toRow 0 rfl
  refine HN M (A9 rfl) rfl rfl rfl fun g29 w8 hg29 M => ya rfl (BO (parts := [(0, _), (1, _), (2, _), (3, _), (4, _), (5, _)]) rfl rfl (IH _ _ _ _ _ _ _ _ _ _)) (BD M (A9 rfl) rfl rfl 60 rfl rfl ([str m.id, str m.nm, .slice a'.V m.vars.length a'.vc, .slice a'.E m.els.length a'.ec, .slice a'.F m.fls.length a'.fc, .map (some g25), .map (some g26), .map (some g27), .map (some g28), .map (some g29)]) rfl fun g31 w9 hg31 M => yb rfl (A1 (A2 (A4 (A4 (A0 ?_))))))
  iterate 4 refine yb rfl ?_
  refine yl rfl rfl (M.cell 0 rfl rfl) (ya rfl (CY rfl rfl (sl rfl)) (yb rfl (A1 (A2 (AV (CM (fun e wr mz => ∃ (i : Nat) (LA : List (List UInt8 × Value)) (atf : List UInt8 → El) (isA : List UInt8 → Bool) (LI : List (List UInt8 × Value)) (rI : List UInt8 → List (List UInt8)) (FI : List Nat) (LO : List (List UInt8 × Value)) (rO : List UInt8 → List (List UInt8)) (FO : List Nat), e = [(1, pg g1), (7, pg g31), (36, .slice a'.E m.els.length a'.ec), (37, .int .i64 ((m.els.length : Nat) : Int)), (38, .int .i64 ((i : Nat) : Int))] ∧ Mem w AB [As.blk g31 60 [str m.id, str m.nm, .slice a'.V m.vars.length a'.vc, .slice a'.E m.els.length a'.ec, .slice a'.F m.fls.length a'.fc, .map (some g25), .map (some g26), .map (some g27), .map (some g28), .map (some g29)], As.mp g29 [], As.rowS g28 LO none rO FO, As.rowS g27 LI none rI FI, As.mp g26 [], As.mpS g25 LA none, As.mdp m a' F0, As.blk g1 26 (Md.cells m a)] wr ∧ (i ≤ m.els.length) ∧ (∀ k, (CE LA k).getD (.agg zeroEl.cells.toArray) = .agg (atf k).cells.toArray ∧ (CE LA k).isSome = isA k) ∧ (∀ k, (rO k).length ≤ m.fls.length) ∧ mz = m.els.length - i) ⟨0, [], (fun _ => zeroEl), (fun _ => false), [], (fun _ => []), [], [], (fun _ => []), [], rfl, M, Nat.zero_le _, fun _ => ⟨rfl, rfl⟩, fun _ => Nat.zero_le _, rfl⟩ ⟨rfl, rfl, rfl, rfl, rfl, trivial⟩ ?_))))))
  rintro _ w10 _ ⟨i, LA, atf, isA, LI, rI, FI, LO, rO, FO, rfl, M, hi, hA, hOl, rfl⟩
  refine A4 (A0 (ya rfl (CH rfl rfl rfl) (A1 (A2 (A4 (AQ (b := (decide (((i : Nat) : Int) < ((m.els.length : Nat) : Int)))) rfl (fun h39 => ?_) (fun h39 => ?_)))))))
  ·have h39p := (odt h39)
   refine AL (A2 (A4 (AV (A4 (A0 ?_)))))
   obtain ⟨x, hx⟩ := DY (l := m.els) (i := i) (by omega)
   obtain ⟨b_x, o_x, hA_x⟩ := CL (k := 11) (by omega) ((M.mdN 6 rfl).md.els) hx
   refine ya rfl (BW i hA_x rfl rfl rfl (sl rfl) (by omega)) (ya rfl (AN rfl rfl (DK El.len ((M.mdN 6 rfl).md.els) hA_x hx) underlying62 rfl AU) (BI M (A9 rfl) rfl rfl 62 rfl [str [], str [], .int .u8 0, str [], str [], str [], .int .u8 0, str [], str [], .int .i64 0, .int .i64 0] AY rfl fun g9 w11 hg9 M => B5 (cs' := (El.cells x)) M 0 (A9 rfl) rfl rfl rfl rfl rfl AU rfl (AP rfl) (AW rfl) rfl fun w12 M => A1 (A2 (D8 36 (fun w' => Mem w AB [As.blk g9 62 (El.cells x), As.blk g31 60 [str m.id, str m.nm, .slice a'.V m.vars.length a'.vc, .slice a'.E m.els.length a'.ec, .slice a'.F m.fls.length a'.fc, .map (some g25), .map (some g26), .map (some g27), .map (some g28), .map (some g29)], As.mp g29 [], As.mp g26 [], As.mdp m a' F0, As.blk g1 26 (Md.cells m a)] w') DT ?_))))
   have M := M.drew
   refine oc 0 36 rfl rfl (M.pk [0, 1, 2, 5, 7, 8]) (oc 1 36 rfl rfl (M.pk [0, 1, 2, 5, 7, 8]) (oc 2 36 rfl rfl (M.pk [0, 1, 2, 5, 7, 8]) (ol 3 36 rfl rfl rfl (M.pk [0, 1, 2, 5, 7, 8]) (fun _ M => (M.cell 1 rfl rfl)) (oc 4 36 rfl rfl (M.pk [0, 1, 2, 5, 7, 8]) (ol 5 36 rfl rfl rfl (M.pk [0, 1, 2, 5, 7, 8]) (fun _ M => (M.cell 0 rfl rfl)) (oc 6 36 rfl rfl (M.pk [0, 1, 2, 5, 7, 8]) (oc 7 36 rfl rfl (M.pk [0, 1, 2, 5, 7, 8]) (oc 8 36 rfl rfl (M.pk [0, 1, 2, 5, 7, 8]) (ol 9 36 rfl rfl rfl (M.pk [0, 1, 2, 5, 7, 8]) (fun _ M => (M.cell 1 rfl rfl)) (oc 10 36 rfl rfl (M.pk [0, 1, 2, 5, 7, 8]) (ol 11 36 rfl rfl rfl (M.pk [0, 1, 2, 5, 7, 8]) (fun _ M => (M.cell 0 rfl rfl)) (oc 12 36 rfl rfl (M.pk [0, 1, 2, 5, 7, 8]) (oc 13 36 rfl rfl (M.pk [0, 1, 2, 5, 7, 8]) (oc 14 36 rfl rfl (M.pk [0, 1, 2, 5, 7, 8]) (ol 15 36 rfl rfl rfl (M.pk [0, 1, 2, 5, 7, 8]) (fun _ M => (M.cell 1 rfl rfl)) ?_)))))))))))))))
   refine oc 16 36 rfl rfl (M.pk [0, 1, 2, 5, 7, 8]) (ol 17 36 rfl rfl rfl (M.pk [0, 1, 2, 5, 7, 8]) (fun _ M => (M.cell 0 rfl rfl)) (oa 18 36 rfl rfl (M.pk [0, 1, 2, 5, 7, 8]) (fun _ M => AN (xs := El.cells x) rfl rfl (M.rdBlk 0 rfl rfl) underlying62 rfl AU) (oa 19 36 rfl rfl (M.pk [0, 1, 2, 5, 7, 8]) (fun _ M => AN (xs := Md.cells m a) rfl rfl (M.rdBlk 5 rfl rfl) underlying26 rfl BL) (oc 20 36 rfl rfl (M.pk [0, 1, 2, 5, 7, 8]) (ol 21 36 rfl rfl rfl (M.pk [0, 1, 2, 5, 7, 8]) (fun _ M => (M.cell 0 rfl rfl)) (oa 23 36 rfl rfl (M.pk [0, 1, 2, 5, 7, 8]) (fun _ M => AN (xs := Md.cells m a) rfl rfl (M.rdBlk 5 rfl rfl) underlying26 rfl BL) (oc 24 36 rfl rfl (M.pk [0, 1, 2, 5, 7, 8]) (ol 25 36 rfl rfl rfl (M.pk [0, 1, 2, 5, 7, 8]) (fun _ M => (M.cell 0 rfl rfl)) (D0 22 (some 64) (by kernel_rfl) rfl (A9 rfl) rfl rfl (AF rfl rfl call14) (o1 m a x.id _ ho (hM.fr0 M.fr)) ?_)))))))))
   rintro _ w13 ⟨A64, c64, rfl, how13, hfw13⟩
   refine ⟨_, rfl, fun _ => (M.pk [0, 1, 2, 5, 7, 8]).step hfw13, ?_⟩
   have M := M.pushOwn hfw13 (Nat.le_refl _) how13
   have hL64 := M.ownLen 0 rfl
   refine D0 26 (some 68) (by kernel_rfl) rfl (A9 rfl) rfl rfl (AF rfl rfl call15) (iI m a x.id _ ho (hM.fr0 M.fr)) ?_
   rintro _ w14 ⟨A68, c68, rfl, how14, hfw14⟩
   refine ⟨_, rfl, fun _ => (M.pk [1, 2, 3, 6, 8, 9]).step hfw14, ?_⟩
   have M := M.pushOwn hfw14 (Nat.le_refl _) how14
   have hL68 := M.ownLen 0 rfl
   refine B3 27 (some 69) (by kernel_rfl) rfl (A9 rfl) rfl rfl (fun ρ hρ => J0 rfl (hρ _ _ rfl) (hρ _ _ rfl) underlying55 underlying9 AY (M.mpS 8 rfl)) ?_
   rintro _ w15 ⟨b69, rfl, hfw15, hEw15⟩
   have M := M.entA 8 rfl hfw15 hEw15
   refine ⟨fun _ => (M.pk [2, 3, 4, 7, 9, 10]), oc 28 36 rfl rfl (M.pk [2, 3, 4, 7, 9, 10]) (B3 29 none (by kernel_rfl) rfl (A9 rfl) rfl rfl (fun ρ hρ => HH rfl (hρ _ _ rfl) (hρ _ _ rfl) (hρ _ _ rfl) (M.mpS 8 rfl)) ?_)⟩
   rintro _ w16 ⟨rfl, hfw16, hbw16⟩
   rw [J3] at hbw16
   have M := M.putA 8 rfl hfw16 hbw16
   refine ⟨fun _ => (M.pk [2, 3, 4, 7, 9, 10]), B3 30 (some 71) (by kernel_rfl) rfl (A9 rfl) rfl rfl (fun ρ hρ => J0 rfl (hρ _ _ rfl) (hρ _ _ rfl) underlying57 underlying9 HJ ((M.rowS 6 rfl).map)) ?_⟩
   rintro _ w17 ⟨b71, rfl, hfw17, hEw17⟩
   have M := M.entR 6 rfl hfw17 hEw17
   refine ⟨fun _ => (M.pk [2, 3, 4, 7, 9, 10]), oc 31 36 rfl rfl (M.pk [2, 3, 4, 7, 9, 10]) (B3 32 none (by kernel_rfl) rfl (A9 rfl) rfl rfl (fun ρ hρ => HH rfl (hρ _ _ rfl) (hρ _ _ rfl) (hρ _ _ rfl) ((M.rowS 6 rfl).map)) ?_)⟩
   rintro _ w18 ⟨rfl, hfw18, hbw18⟩
   obtain ⟨F2I, M⟩ := Mem.putR (M.pk [1, 6, 0, 2, 3, 4, 5, 7, 8, 9, 10]) hfw18 hbw18 rfl
   rw [J3] at M
   have M := M.pk [1, 2, 3, 4, 5, 0, 6, 7, 8, 9]
   refine ⟨fun _ => (M.pk [1, 2, 3, 6, 8, 9]), B3 33 (some 73) (by kernel_rfl) rfl (A9 rfl) rfl rfl (fun ρ hρ => J0 rfl (hρ _ _ rfl) (hρ _ _ rfl) underlying57 underlying9 HJ ((M.rowS 4 rfl).map)) ?_⟩
   rintro _ w19 ⟨b73, rfl, hfw19, hEw19⟩
   have M := M.entR 4 rfl hfw19 hEw19
   refine ⟨fun _ => (M.pk [1, 2, 3, 6, 8, 9]), oc 34 36 rfl rfl (M.pk [1, 2, 3, 6, 8, 9]) (B3 35 none (by kernel_rfl) rfl (A9 rfl) rfl rfl (fun ρ hρ => HH rfl (hρ _ _ rfl) (hρ _ _ rfl) (hρ _ _ rfl) ((M.rowS 4 rfl).map)) ?_)⟩
   rintro _ w20 ⟨rfl, hfw20, hbw20⟩
   obtain ⟨F2O, M⟩ := Mem.putR (M.pk [0, 4, 1, 2, 3, 5, 6, 7, 8, 9]) hfw20 hbw20 rfl
   rw [J3] at M
   have M := M.pk [1, 2, 3, 0, 4, 5, 6, 7, 8]
   refine ⟨fun _ => (M.pk [0, 1, 2, 5, 7, 8]), BJ (by kernel_rfl) (AC (A2 (A0 (ya rfl (CQ rfl rfl rfl (by omega)) (yb rfl (A1 (BM [(1, pg g1), (7, pg g31), (36, .slice a'.E m.els.length a'.ec), (37, .int .i64 ((m.els.length : Nat) : Int)), (38, .int .i64 (((i + 1) : Nat) : Int))] (m.els.length - (i + 1)) ⟨i + 1, (CV LA x.id (.agg (El.cells x).toArray)), (fun k => if k = x.id then x else atf k), (fun k => if k = x.id then true else isA k), (CV LI x.id (.slice A64 (((DD m.fls x.id).map (fun u : Fl => u.id)).length) c64)), (fun k' => if k' = x.id then ((DD m.fls x.id).map (fun u : Fl => u.id)) else rI k'), F2I, (CV LO x.id (.slice A68 (((BK m.fls x.id).map (fun u : Fl => u.id)).length) c68)), (fun k' => if k' = x.id then ((BK m.fls x.id).map (fun u : Fl => u.id)) else rO k'), F2O, rfl, (M.pk [1, 2, 3, 4, 5, 6, 7, 8]), ?_, ?_, ?_, rfl⟩ (by first | omega | (simp <;> omega)) ⟨rfl, rfl, rfl, rfl, rfl, trivial⟩)))))))⟩
   ·omega
   ·exact sH hA
   ·exact nX hOl
  ·have h39p := (odf h39)
   refine CD (AI (AI (BB (A2 (A4 (A4 (A0 ?_)))))))
   iterate 4 refine yb rfl ?_
   refine yl rfl rfl (M.cell 0 rfl rfl) (ya rfl (CY rfl rfl (sl rfl)) (yb rfl (A1 (A2 (AV (CM (fun e wr mz => ∃ (j : Nat) (LF : List (List UInt8 × Value)) (flf : List UInt8 → Fl) (isF : List UInt8 → Bool) (LC : List (List UInt8 × Value)), e = [(7, pg g31), (80, .slice a'.F m.fls.length a'.fc), (81, .int .i64 ((m.fls.length : Nat) : Int)), (82, .int .i64 ((j : Nat) : Int))] ∧ Mem w AB [As.blk g31 60 [str m.id, str m.nm, .slice a'.V m.vars.length a'.vc, .slice a'.E m.els.length a'.ec, .slice a'.F m.fls.length a'.fc, .map (some g25), .map (some g26), .map (some g27), .map (some g28), .map (some g29)], As.mp g29 LC, As.rowS g28 LO none rO FO, As.rowS g27 LI none rI FI, As.mp g26 LF, As.mpS g25 LA none, As.mdp m a' F0, As.blk g1 26 (Md.cells m a)] wr ∧ (j ≤ m.fls.length) ∧ (∀ k, (CE LF k).getD (.agg zeroFl.cells.toArray) = .agg (flf k).cells.toArray ∧ (CE LF k).isSome = isF k) ∧ ((m.fls.take j).all IF = true) ∧ mz = m.fls.length - j) ⟨0, [], (fun _ => zeroFl), (fun _ => false), [], rfl, M, Nat.zero_le _, fun _ => ⟨rfl, rfl⟩, rfl, rfl⟩ ⟨rfl, rfl, rfl, rfl, trivial⟩ ?_))))))
   rintro _ w21 _ ⟨j, LF, flf, isF, LC, rfl, M, hj, hFl, hC, rfl⟩
   refine A4 (A0 (ya rfl (CH rfl rfl rfl) (A1 (A2 (A4 (AQ (b := (decide (((j : Nat) : Int) < ((m.fls.length : Nat) : Int)))) rfl (fun h83 => ?_) (fun h83 => ?_)))))))
   ·have h83p := (odt h83)
    refine AL (A2 (A4 (AV (A4 (A0 ?_)))))
    obtain ⟨f, hf⟩ := DY (l := m.fls) (i := j) (by omega)
    obtain ⟨b_f, o_f, hA_f⟩ := CL (k := 4) (by omega) ((M.mdN 6 rfl).md.fls) hf
    refine ya rfl (BW j hA_f rfl rfl rfl (sl rfl) (by omega)) (ya rfl (AN rfl rfl (DK Fl.len ((M.mdN 6 rfl).md.fls) hA_f hf) underlying65 rfl CB) (BI M (A9 rfl) rfl rfl 65 rfl [str [], str [], str [], str []] EF rfl fun g11 w22 hg11 M => B5 (cs' := (Fl.cells f)) M 0 (A9 rfl) rfl rfl rfl rfl rfl CB rfl (AP rfl) (AW rfl) rfl fun w23 M => A1 (A2 (A4 (GP 7 DT (by kernel_rfl) ?_)))))
    have M := M.drew
    refine sb rfl (sb rfl (sb rfl (sd rfl rfl (M.cell 1 rfl rfl) (sb rfl (sd rfl rfl (M.cell 0 rfl rfl) (sa rfl (AN (xs := Fl.cells f) rfl rfl (M.rdBlk 0 rfl rfl) underlying65 rfl CB) (EJ (ES M 5 (A9 rfl) rfl rfl rfl rfl rfl underlying56 underlying9 rfl fun w24 M => A1 (A2 (A4 (A0 (yb rfl (yl rfl rfl (M.cell 0 rfl rfl) ?_)))))))))))))
    refine ya rfl (HD rfl rfl rfl) (A1 (A2 (AQ (b := (!decide (f.cond = []))) rfl (fun h95 => ?_) (fun h95 => ?_))))
    ·have h95p := (odf (C1 h95))
     refine A4 (A0 (yb rfl (yl rfl rfl (M.cell 0 rfl rfl) (cl 99 rfl (AF rfl rfl call16) (VU f.cond _ (by have := (ho.fls f (List.mem_of_getElem? hf)).cond; omega) (hY.fr0 M.fr)) ?_))))
     rintro _ w25 ⟨AX, FX, rfl, hat, hnx, hfw25⟩
     refine ⟨_, rfl, ?_⟩
     have M := M.push hfw25 (As.xn 70 (C8 f.cond).1 AX FX) hat hnx
     iterate 4 refine yb rfl ?_
     refine BI M (A9 rfl) rfl rfl 70 rfl [.int .u8 0, .int .u8 0, .int .i64 0, .bool false, str [], str [], .slice none 0 0] CW rfl fun g12 w26 hg12 M => B5 (cs' := (Xn.cells (C8 f.cond).1 AX)) M 0 (A9 rfl) rfl rfl rfl rfl rfl AM rfl (AP rfl) (AW rfl) rfl fun w27 M => yb rfl (yb rfl (A1 (A2 (A4 (A4 (A0 (yb rfl (ya rfl (CX rfl rfl rfl) (A1 (A2 (AQ (b := (!decide ((C8 f.cond).2.2 = (0 : Int)))) rfl (fun h104 => ?_) (fun h104 => ?_))))))))))))
     ·have h104p := (odf (C1 h104))
      exact A4 (A0 (yb rfl (yb rfl (A1 (A2 (AD (AA (AJ (AA (AA (AJ (AA (BY rfl rfl rfl ⟨.inr ⟨YA hf h95 h104, rfl⟩, M.fr⟩)))))))))))))
     ·have h104p := (odt (C3 h104))
      refine AL (A2 (GP 7 DT (by kernel_rfl) ?_))
      have M := M.drew
      refine sb rfl (sb rfl (sb rfl (sd rfl rfl (M.cell 3 rfl rfl) (sb rfl (sd rfl rfl (M.cell 2 rfl rfl) (sa rfl (AN (xs := Xn.cells (C8 f.cond).1 AX) rfl rfl (M.rdBlk 0 rfl rfl) underlying70 rfl AM) (EJ (ES M 4 (A9 rfl) rfl rfl rfl rfl rfl underlying58 underlying9 rfl fun w28 M => A1 (AC (A2 (A0 (ya rfl (CQ rfl rfl rfl (by omega)) (yb rfl ?_)))))))))))))
      refine A1 (BM [(7, pg g31), (80, .slice a'.F m.fls.length a'.fc), (81, .int .i64 ((m.fls.length : Nat) : Int)), (82, .int .i64 (((j + 1) : Nat) : Int))] (m.fls.length - (j + 1)) ⟨j + 1, CV LF f.id (.agg (Fl.cells f).toArray), (fun k => if k = f.id then f else flf k), (fun k => if k = f.id then true else isF k), CV LC f.id (.agg (Xn.cells (C8 f.cond).1 AX).toArray), rfl, (M.pk [3, 4, 5, 6, 7, 8, 9, 10]), ?_, ?_, ?_, rfl⟩ (by first | omega | (simp <;> omega)) ⟨rfl, rfl, rfl, rfl, trivial⟩)
      ·omega
      ·exact jR hFl
      ·first
        | exact KP hC (BH hf) (TI h95)
        | exact KP hC (BH hf) (RK h95 h104)
    ·have h95p := (odt (C3 h95))
     refine AL (AC (A2 (A0 (ya rfl (CQ rfl rfl rfl (by omega)) (yb rfl (A1 (BM [(7, pg g31), (80, .slice a'.F m.fls.length a'.fc), (81, .int .i64 ((m.fls.length : Nat) : Int)), (82, .int .i64 (((j + 1) : Nat) : Int))] (m.fls.length - (j + 1)) ⟨j + 1, CV LF f.id (.agg (Fl.cells f).toArray), (fun k => if k = f.id then f else flf k), (fun k => if k = f.id then true else isF k), LC, rfl, (M.pk [1, 2, 3, 4, 5, 6, 7, 8]), ?_, ?_, ?_, rfl⟩ (by first | omega | (simp <;> omega)) ⟨rfl, rfl, rfl, rfl, trivial⟩)))))))
     ·omega
     ·exact jR hFl
     ·first
       | exact KP hC (BH hf) (TI h95)
       | exact KP hC (BH hf) (RK h95 h104)
   ·have h83p := (odf h83)
    refine CD (AI (AI ?_))
    have hjE : j = m.fls.length := by omega
    rw [hjE, List.take_length] at hC
    exact BB (A2 (A4 (A0 (yb rfl (yb rfl (yb rfl (A1 (A2 (AD (BY rfl rfl rfl ⟨.inl ⟨dK h22 hC, nR (M.pk [0, 6, 5, 4, 2]) (fun k => (hA k).1) (fun k => (hA k).2) (fun k => (hFl k).1) (fun k => (hFl k).2) hOl⟩, M.fr⟩))))))))))
end Go.Proofs.YtadgfojhjnkliaaGreatDoor
