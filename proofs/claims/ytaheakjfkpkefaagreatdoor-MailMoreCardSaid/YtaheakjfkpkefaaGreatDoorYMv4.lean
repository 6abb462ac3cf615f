/- Lemmas that the last text rests on. Condition: each says its own. -/
import Derived.Test.YtaheakjfkpkefaaGreatDoorYMv3
set_option maxHeartbeats 16000000
set_option maxRecDepth 100000
namespace Go.Proofs.YtaheakjfkpkefaaGreatDoor
open Go.RowKit
open Tryz
theorem sD {L : List (List UInt8 × Value)} {f : List UInt8 → El} {is : List UInt8 → Bool} {x : El} (h : ∀ k, (BP L k).getD (.agg zeroEl.cells.toArray) = .agg (f k).cells.toArray ∧ (BP L k).isSome = is k) :
 ∀ k, (BP (CK L x.id (.agg (El.cells x).toArray)) k).getD (.agg zeroEl.cells.toArray) = .agg ((if k = x.id then x else f k)).cells.toArray ∧ (BP (CK L x.id (.agg (El.cells x).toArray)) k).isSome = (if k = x.id then true else is k) := fun k => by
 rw [E8]
 by_cases hk : k = x.id
 ·rw [if_pos hk, if_pos hk, if_pos hk]; exact ⟨rfl, rfl⟩
 ·rw [if_neg hk, if_neg hk, if_neg hk]; exact h k
theorem o8 {m : Md} {r : List UInt8 → List (List UInt8)} {x : El} (h : ∀ k, (r k).length ≤ m.fls.length) : ∀ k, ((fun k' => if k' = x.id then (BI m.fls x.id).map (fun u : Fl => u.id) else r k') k).length ≤ m.fls.length := fun k => by
 simp only
 split
 ·rw [List.length_map]; exact DR _ _
 ·exact h k
theorem kJ {L : List (List UInt8 × Value)} {f : List UInt8 → Fl} {is : List UInt8 → Bool} {x : Fl} (h : ∀ k, (BP L k).getD (.agg zeroFl.cells.toArray) = .agg (f k).cells.toArray ∧ (BP L k).isSome = is k) :
 ∀ k, (BP (CK L x.id (.agg (Fl.cells x).toArray)) k).getD (.agg zeroFl.cells.toArray) = .agg ((if k = x.id then x else f k)).cells.toArray ∧ (BP (CK L x.id (.agg (Fl.cells x).toArray)) k).isSome = (if k = x.id then true else is k) := fun k => by
 rw [E8]
 by_cases hk : k = x.id
 ·rw [if_pos hk, if_pos hk, if_pos hk]; exact ⟨rfl, rfl⟩
 ·rw [if_neg hk, if_neg hk, if_neg hk]; exact h k
def IP (f : Fl) : Bool := if (!decide (f.cond = [])) = true then !(!decide ((C8 f.cond).2.2 = (0 : Int))) else true
theorem TT {f : Fl} (h : (!decide (f.cond = [])) = false) : IP f = true := AS h
theorem S4 {f : Fl} (h : (!decide (f.cond = [])) = true) (h2 : (!decide ((C8 f.cond).2.2 = (0 : Int))) = false) : IP f = true := by rw [IP, if_pos h, h2]; rfl
theorem M5 {l l' : List Fl} {f : Fl} (h : l.all IP = true) (hl : l' = l ++ [f]) (hf : IP f = true) : l'.all IP = true := by rw [hl, List.all_append, h]; simp [hf]
def GS (m : Md) : Bool := !(!decide ((KM m).2.2 = (0 : Int))) && m.fls.all IP
theorem YF {m : Md} (h : (!decide ((KM m).2.2 = (0 : Int))) = true) : GS m = false := by unfold GS; rw [h]; rfl
theorem YG {m : Md} {j : Nat} {f : Fl} (hf : m.fls[j]? = some f) (h : (!decide (f.cond = [])) = true) (h2 : (!decide ((C8 f.cond).2.2 = (0 : Int))) = true) : GS m = false := by
 have : m.fls.all IP = false := by
  rw [List.all_eq_false]
  exact ⟨f, List.mem_of_getElem? hf, by rw [IP, if_pos h, h2]; decide⟩
 unfold GS; rw [this, Bool.and_false]
theorem cQ {m : Md} (h : (!decide ((KM m).2.2 = (0 : Int))) = false) (h2 : m.fls.all IP = true) : GS m = true := by unfold GS; rw [h, h2]; rfl
def CndS (w : World) (cn : List UInt8 → Option (List UInt8)) (aC : List UInt8 → Option Addr) (F : List Nat) : Prop := ∀ k s, cn k = some s → ∃ F', (C8 s).1.AtL 112 w (aC k) F' ∧ ∀ x ∈ F', x ∈ F
theorem CndS.keep {w w' : World} {cn : List UInt8 → Option (List UInt8)} {aC : List UInt8 → Option Addr} {F : List Nat} (h : CndS w cn aC F) (hk : ∀ g ∈ F, g < w.heap.size → w'.heap[g]? = w.heap[g]?) : CndS w' cn aC F := fun k s hc => by
 obtain ⟨F', h1, h2⟩ := h k s hc
 exact ⟨F', h1.keep (fun g hg => hk g (h2 g hg)), h2⟩
def As.cnd (cn : List UInt8 → Option (List UInt8)) (aC : List UInt8 → Option Addr) (F : List Nat) : As := ⟨F, fun w => CndS w cn aC F, fun h hb => hb.keep h⟩
theorem Mem.pushE {w0 w : World} {S : Nat → Prop} {Ls : List As} (M : Mem w0 S Ls w) (a : As) (h : a.ok w) (hf : a.fp = []) : Mem w0 S (a :: Ls) w := M.push Fr.refl a h (fun g hg => by rw [hf] at hg; cases hg)
theorem Mem.foldC {w0 w : World} {S : Nat → Prop} {Ls : List As} {AX : Option Addr} {FX FC : List Nat} {cn : List UInt8 → Option (List UInt8)} {aC : List UInt8 → Option Addr} (k s : List UInt8) (M : Mem w0 S (As.xn 112 (C8 s).1 AX FX :: As.cnd cn aC FC :: Ls) w) :
 Mem w0 S (As.cnd (fun k' => if k' = k then some s else cn k') (fun k' => if k' = k then AX else aC k') (FX ++ FC) :: Ls) w := by
 have h1 : (C8 s).1.AtL 112 w AX FX := M.ok 0 _ rfl
 have h2 : CndS w cn aC FC := M.ok 1 _ rfl
 refine M.joinFam _ (show CndS w _ _ _ from fun k' s' hc => ?_) (fun x hx => List.mem_append.1 hx)
 by_cases hk : k' = k
 ·rw [if_pos hk] at hc
  cases hc
  rw [if_pos hk]
  exact ⟨FX, h1, fun x hx => List.mem_append_left _ hx⟩
 ·rw [if_neg hk] at hc
  rw [if_neg hk]
  obtain ⟨F', h3, h4⟩ := h2 k' s' hc
  exact ⟨F', h3, fun x hx => List.mem_append_right _ (h4 x hx)⟩
theorem lC {LC : List (List UInt8 × Value)} {cn : List UInt8 → Option (List UInt8)} {aC : List UInt8 → Option Addr} {f : Fl} {AX : Option Addr} (h : ∀ k, BP LC k = (cn k).map (fun s => .agg ((C8 s).1.cells (aC k)).toArray)) :
 ∀ k, BP (CK LC f.id (.agg (Xn.cells (C8 f.cond).1 AX).toArray)) k = ((if k = f.id then some f.cond else cn k).map (fun s => .agg ((C8 s).1.cells (if k = f.id then AX else aC k)).toArray)) := fun k => by
 rw [E8]
 by_cases hk : k = f.id
 ·rw [if_pos hk, if_pos hk, if_pos hk]; rfl
 ·rw [if_neg hk, if_neg hk, if_neg hk]; exact h k
def atF (l : List El) : List UInt8 → El := l.foldl (fun f x => fun k => if k = x.id then x else f k) (fun _ => zeroEl)
def WR (l : List El) : List UInt8 → Bool := l.foldl (fun f x => fun k => if k = x.id then true else f k) (fun _ => false)
def UU (m : Md) (l : List El) : List UInt8 → List (List UInt8) := l.foldl (fun f x => fun k => if k = x.id then (DG m.fls x.id).map (fun u : Fl => u.id) else f k) (fun _ => [])
def K8 (m : Md) (l : List El) : List UInt8 → List (List UInt8) := l.foldl (fun f x => fun k => if k = x.id then (BI m.fls x.id).map (fun u : Fl => u.id) else f k) (fun _ => [])
def flF (l : List Fl) : List UInt8 → Fl := l.foldl (fun f x => fun k => if k = x.id then x else f k) (fun _ => zeroFl)
def ST (l : List Fl) : List UInt8 → Bool := l.foldl (fun f x => fun k => if k = x.id then true else f k) (fun _ => false)
def cnF (l : List Fl) : List UInt8 → Option (List UInt8) := l.foldl (fun f x => if x.cond = [] then f else fun k => if k = x.id then some x.cond else f k) (fun _ => none)
theorem lZ (l : List El) (x : El) : atF (l ++ [x]) = fun k => if k = x.id then x else atF l k := by unfold atF; rw [List.foldl_append]; rfl
theorem dH (l : List El) (x : El) : WR (l ++ [x]) = fun k => if k = x.id then true else WR l k := by unfold WR; rw [List.foldl_append]; rfl
theorem dI (m : Md) (l : List El) (x : El) : UU m (l ++ [x]) = fun k => if k = x.id then (DG m.fls x.id).map (fun u : Fl => u.id) else UU m l k := by unfold UU; rw [List.foldl_append]; rfl
theorem WH (m : Md) (l : List El) (x : El) : K8 m (l ++ [x]) = fun k => if k = x.id then (BI m.fls x.id).map (fun u : Fl => u.id) else K8 m l k := by unfold K8; rw [List.foldl_append]; rfl
theorem X2 (l : List Fl) (x : Fl) : flF (l ++ [x]) = fun k => if k = x.id then x else flF l k := by unfold flF; rw [List.foldl_append]; rfl
theorem TL (l : List Fl) (x : Fl) : ST (l ++ [x]) = fun k => if k = x.id then true else ST l k := by unfold ST; rw [List.foldl_append]; rfl
theorem lD {l : List Fl} {x : Fl} (h : x.cond = []) : cnF (l ++ [x]) = cnF l := by unfold cnF; rw [List.foldl_append]; exact if_pos h
theorem aP {l : List Fl} {x : Fl} (h : ¬ x.cond = []) : cnF (l ++ [x]) = fun k => if k = x.id then some x.cond else cnF l k := by unfold cnF; rw [List.foldl_append]; exact if_neg h
structure CrA where
 a : MdA
 gA : Nat
 gF : Nat
 gI : Nat
 gO : Nat
 gC : Nat
 LA : List (List UInt8 × Value)
 LF : List (List UInt8 × Value)
 LO : List (List UInt8 × Value)
 atf : List UInt8 → El
 isA : List UInt8 → Bool
 flf : List UInt8 → Fl
 isF : List UInt8 → Bool
 outs : List UInt8 → List (List UInt8)
 LI : List (List UInt8 × Value)
 ins : List UInt8 → List (List UInt8)
 LC : List (List UInt8 × Value)
 cnd : List UInt8 → Option (List UInt8)
 aC : List UInt8 → Option Addr
 FC : List Nat
def CrA.cells (m : Md) (c : CrA) : List Value := [str m.id, str m.nm, .slice c.a.V m.vars.length c.a.vc, .slice c.a.E m.els.length c.a.ec, .slice c.a.F m.fls.length c.a.fc, .map (some c.gA), .map (some c.gF), .map (some c.gI), .map (some c.gO), .map (some c.gC)]
structure CourseN (w : World) (m : Md) (gc : Nat) (c : CrA) (F : List Nat) : Prop where
 blk : Blk w gc 90 (c.cells m)
 md : MdN w m c.a F
 A : Mp w c.gA c.LA
 L : Mp w c.gF c.LF
 O : Mp w c.gO c.LO
 getA : ∀ k, (BP c.LA k).getD (.agg zeroEl.cells.toArray) = .agg (c.atf k).cells.toArray
 isA : ∀ k, (BP c.LA k).isSome = c.isA k
 getL : ∀ k, (BP c.LF k).getD (.agg zeroFl.cells.toArray) = .agg (c.flf k).cells.toArray
 isL : ∀ k, (BP c.LF k).isSome = c.isF k
 getO : ∀ k, (BP c.LO k).getD (.slice none 0 0) = .slice (MB (ED c.LO k)) (c.outs k).length (Y3 (ED c.LO k))
 rdO : ∀ k, Rd w (MB (ED c.LO k)) ((c.outs k).length * 1) (AB BK (c.outs k))
 I : Mp w c.gI c.LI
 C : Mp w c.gC c.LC
 getI : ∀ k, (BP c.LI k).getD (.slice none 0 0) = .slice (MB (ED c.LI k)) (c.ins k).length (Y3 (ED c.LI k))
 rdI : ∀ k, Rd w (MB (ED c.LI k)) ((c.ins k).length * 1) (AB BK (c.ins k))
 getC : ∀ k, BP c.LC k = (c.cnd k).map (fun s => .agg ((C8 s).1.cells (c.aC k)).toArray)
 ndC : CndS w c.cnd c.aC c.FC
 eA : c.atf = atF m.els
 eB : c.isA = WR m.els
 eI : c.ins = UU m m.els
 eO : c.outs = K8 m m.els
 eL : c.flf = flF m.fls
 eM : c.isF = ST m.fls
 eC : c.cnd = cnF m.fls
 inF : gc ∈ F ∧ c.gA ∈ F ∧ c.gF ∈ F ∧ c.gO ∈ F ∧ c.gI ∈ F ∧ c.gC ∈ F
 inI : ∀ k b off p, MB (ED c.LI k) = some ⟨b, off, p⟩ → b ∈ F
 inC : ∀ x ∈ c.FC, x ∈ F
 inO : ∀ k b off p, MB (ED c.LO k) = some ⟨b, off, p⟩ → b ∈ F
 lenO : ∀ k, (c.outs k).length ≤ m.fls.length
theorem MdN.mono {w : World} {m : Md} {a : MdA} {F F' : List Nat} (h : MdN w m a F) (hF : ∀ x ∈ F, x ∈ F') : MdN w m a F' := ⟨h.md, fun b off p e => hF b (h.V b off p e), fun b off p e => hF b (h.E b off p e), fun b off p e => hF b (h.L b off p e)⟩
theorem CourseN.keep {w w' : World} {m : Md} {gc : Nat} {c : CrA} {F : List Nat} (hk : ∀ g ∈ F, g < w.heap.size → w'.heap[g]? = w.heap[g]?) (h : CourseN w m gc c F) : CourseN w' m gc c F :=
 ⟨(hk gc h.inF.1 h.blk.lt).trans h.blk, h.md.keep hk, J0 h.A hk h.inF.2.1, J0 h.L hk h.inF.2.2.1, J0 h.O hk h.inF.2.2.2.1, h.getA, h.isA, h.getL, h.isL, h.getO, fun k => GR (h.rdO k) hk (h.inO k), J0 h.I hk h.inF.2.2.2.2.1, J0 h.C hk h.inF.2.2.2.2.2, h.getI, fun k => GR (h.rdI k) hk (h.inI k), h.getC, h.ndC.keep (fun g hg => hk g (h.inC g hg)), h.eA, h.eB, h.eI, h.eO, h.eL, h.eM, h.eC, h.inF, h.inI, h.inC, h.inO, h.lenO⟩
theorem nY {m : Md} {a' : MdA} {w w' : World} {g31 g25 g26 g27 g28 g29 : Nat} {F0 FO FI FC : List Nat} {LA LF LO LI LC : List (List UInt8 × Value)} {atf : List UInt8 → El} {isA isF : List UInt8 → Bool} {flf : List UInt8 → Fl} {rO rI : List UInt8 → List (List UInt8)} {cn : List UInt8 → Option (List UInt8)} {aC : List UInt8 → Option Addr} {Ls : List As}
 (M : Mem w AM (As.blk g31 90 [str m.id, str m.nm, .slice a'.V m.vars.length a'.vc, .slice a'.E m.els.length a'.ec, .slice a'.F m.fls.length a'.fc, .map (some g25), .map (some g26), .map (some g27), .map (some g28), .map (some g29)] :: As.mdp m a' F0 :: As.mpS g25 LA none :: As.mp g26 LF :: As.rowS g28 LO none rO FO :: As.rowS g27 LI none rI FI :: As.mp g29 LC :: As.cnd cn aC FC :: Ls) w')
 (h1 : ∀ k, (BP LA k).getD (.agg zeroEl.cells.toArray) = .agg (atf k).cells.toArray) (h2 : ∀ k, (BP LA k).isSome = isA k) (h3 : ∀ k, (BP LF k).getD (.agg zeroFl.cells.toArray) = .agg (flf k).cells.toArray) (h4 : ∀ k, (BP LF k).isSome = isF k) (h5 : ∀ k, (rO k).length ≤ m.fls.length)
 (h6 : ∀ k, BP LC k = (cn k).map (fun s => .agg ((C8 s).1.cells (aC k)).toArray)) (e1 : atf = atF m.els) (e2 : isA = WR m.els) (e3 : rI = UU m m.els) (e4 : rO = K8 m m.els) (e5 : flf = flF m.fls) (e6 : isF = ST m.fls) (e7 : cn = cnF m.fls) :
 ∃ gc c F, Ending.returned (.tuple #[pg g31, AA 0]) = .returned (.tuple #[pg gc, AA 0]) ∧ CourseN w' m gc c F ∧ ∀ g ∈ F, w.heap.size ≤ g ∧ g < w'.heap.size := by
 have hR : RowS w' g28 LO none rO FO := M.ok 4 _ rfl
 have hA : MpB w' g25 LA := M.ok 2 _ rfl
 have hO : MpB w' g28 LO := hR.map
 have hI : RowS w' g27 LI none rI FI := M.ok 5 _ rfl
 have hIm : MpB w' g27 LI := hI.map
 have hv : ∀ {g : Nat} {L : List (List UInt8 × Value)} {r : List UInt8 → List (List UInt8)} {F : List Nat}, RowS w' g L none r F → ∀ k, (BP L k).getD (.slice none 0 0) = .slice (MB (ED L k)) (r k).length (Y3 (ED L k)) ∧ Rd w' (MB (ED L k)) ((r k).length * 1) (AB BK (r k)) ∧ ∀ b off p, MB (ED L k) = some ⟨b, off, p⟩ → b ∈ F := fun {g L r F} hR k => by
  obtain ⟨A, C, e1, e2, e3⟩ := hR.row k
  rw [show (BP L k).getD (.slice none 0 0) = ED L k from rfl, e1]
  exact ⟨rfl, e2, e3⟩
 refine ⟨g31, ⟨a', g25, g26, g27, g28, g29, LA, LF, LO, atf, isA, flf, isF, rO, LI, rI, LC, cn, aC, FC⟩, g31 :: g25 :: g26 :: g28 :: g27 :: g29 :: (F0 ++ (FO ++ (FI ++ FC))), rfl, ⟨M.blk 0 rfl, (M.mdN 1 rfl).mono (fun x hx => by simp [hx]), hA.mp, M.mp 3 rfl, hO.mp, h1, h2, h3, h4, fun k => (hv hR k).1, fun k => (hv hR k).2.1, hIm.mp, M.mp 6 rfl, fun k => (hv hI k).1, fun k => (hv hI k).2.1, h6, M.ok 7 _ rfl, e1, e2, e3, e4, e5, e6, e7, ⟨by simp, by simp, by simp, by simp, by simp, by simp⟩, fun k b off p e => by simp [(hv hI k).2.2 b off p e], fun x hx => by simp [show x ∈ FC from hx], fun k b off p e => by simp [(hv hR k).2.2 b off p e], h5⟩, ?_⟩
 intro g hg
 simp only [List.mem_cons, List.mem_append] at hg
 rcases hg with rfl | rfl | rfl | rfl | rfl | rfl | hg | hg | hg | hg
 ·exact M.new0 0 rfl _ (by simp [As.blk])
 ·exact M.new0 2 rfl _ (by simp [As.mpS])
 ·exact M.new0 3 rfl _ (by simp [As.mp])
 ·exact M.new0 4 rfl _ List.mem_cons_self
 ·exact M.new0 5 rfl _ List.mem_cons_self
 ·exact M.new0 6 rfl _ (by simp [As.mp])
 ·exact M.new0 1 rfl g hg
 ·exact M.new0 4 rfl g (List.mem_cons_of_mem _ hg)
 ·exact M.new0 5 rfl g (List.mem_cons_of_mem _ hg)
 ·exact M.new0 7 rfl g hg
theorem IS (c0_0 c0_1 c0_2 c0_3 c0_4 : Value) (a1 : Option Nat) (a2 : Option Nat) (a3 : Option Nat) (a4 : Option Nat) (a5 : Option Nat) : prog.built 90 [(0, .agg #[c0_0, c0_1, c0_2, c0_3, c0_4]), (1, .map a1), (2, .map a2), (3, .map a3), (4, .map a4), (5, .map a5)] = some #[c0_0, c0_1, c0_2, c0_3, c0_4, .map a1, .map a2, .map a3, .map a4, .map a5] := by kernel_rfl
theorem EO : (prog.info? 48).map (·.zero) = some (some (.slice none 0 0)) := by kernel_rfl
theorem ZW (m : Md) (a : MdA) (w : World) (hb : MdB m) (hM : MdIn w m a) (hY : Lay0 w) :
 Calls prog 16 #[.agg (Md.cells m a).toArray] w fun e w' => ((GS m = true ∧ ∃ gc c F, e = .returned (.tuple #[pg gc, AA 0]) ∧ CourseN w' m gc c F ∧ ∀ g ∈ F, w.heap.size ≤ g ∧ g < w'.heap.size) ∨ (GS m = false ∧ e = .returned (.tuple #[.pointer none, AA 140]))) ∧ Fr0 w w' := by
 refine BL func16 ntmps16 rfl fun M => srg (DD M rfl rfl fun g1 w1 hg1 M => yb rfl (AG rfl (sx_seq (srg (DO M 0 rfl rfl underlying62 B6 rfl (DV M 17 rfl rfl call38 (UH m a _ hb (hM.fr0 M.fr) (hY.fr0 M.fr)) fun w2 M => ?_))))))
 iterate 7 refine yb rfl ?_
 refine nq (AC rfl (FT rfl rfl (nq (AF rfl (fun h22 => ?_) (fun h22 => ?_)))))
 ·exact AC rfl (yb rfl (gnr (qx_then_ret (BS rfl rfl rfl ⟨.inr ⟨YF h22, rfl⟩, M.fr⟩))))
 ·have h22p := (odt (BJ h22))
  have ho := iS hb h22p
  have hne := ho.nels
  have hnf := ho.nfls
  refine sx_skip (qx_seq (srg (DO M 0 rfl rfl underlying62 B6 rfl (cl 24 rfl (AE rfl rfl call39) (ZC m a _ ho (hM.fr0 M.fr)) ?_))))
  rintro _ w3 ⟨a', F0, rfl, hmd, hnw, hfw3⟩
  refine ⟨_, rfl, ?_⟩
  have M := M.push hfw3 (As.mdp m a' F0) hmd hnw
  refine QZ M (wn_none rfl) rfl rfl rfl fun g25 w4 hg25 M => HL M (wn_none rfl) rfl rfl rfl fun g26 w5 hg26 M => QZ M (wn_none rfl) rfl rfl rfl fun g27 w6 hg27 M => ?_
  have M := M.toRow 0 rfl
  refine QZ M (wn_none rfl) rfl rfl rfl fun g28 w7 hg28 M => ?_
  have M := M.toRow 0 rfl
  refine HL M (wn_none rfl) rfl rfl rfl fun g29 w8 hg29 M => ya rfl (AY (parts := [(0, _), (1, _), (2, _), (3, _), (4, _), (5, _)]) rfl rfl (IS _ _ _ _ _ _ _ _ _ _)) (DB M (wn_none rfl) rfl rfl 90 rfl rfl ([str m.id, str m.nm, .slice a'.V m.vars.length a'.vc, .slice a'.E m.els.length a'.ec, .slice a'.F m.fls.length a'.fc, .map (some g25), .map (some g26), .map (some g27), .map (some g28), .map (some g29)]) rfl fun g31 w9 hg31 M => AG rfl (sx_seq (srg ?_)))
  iterate 4 refine yb rfl ?_
  refine B2 M 0 rfl rfl rfl (DP rfl rfl (AG rfl (sx_block (flp [37, 36, 7, 1] (fun ze e wr mz => ∃ (i : Nat) (LA : List (List UInt8 × Value)) (atf : List UInt8 → El) (isA : List UInt8 → Bool) (LI : List (List UInt8 × Value)) (rI : List UInt8 → List (List UInt8)) (FI : List Nat) (LO : List (List UInt8 × Value)) (rO : List UInt8 → List (List UInt8)) (FO : List Nat), e = (38, AA (i : Int)) :: ze ∧ Mem w AM [As.blk g31 90 [str m.id, str m.nm, .slice a'.V m.vars.length a'.vc, .slice a'.E m.els.length a'.ec, .slice a'.F m.fls.length a'.fc, .map (some g25), .map (some g26), .map (some g27), .map (some g28), .map (some g29)], As.mp g29 [], As.rowS g28 LO none rO FO, As.rowS g27 LI none rI FI, As.mp g26 [], As.mpS g25 LA none, As.mdp m a' F0, As.blk g1 62 (Md.cells m a)] wr ∧ (i ≤ m.els.length) ∧ (∀ k, (BP LA k).getD (.agg zeroEl.cells.toArray) = .agg (atf k).cells.toArray ∧ (BP LA k).isSome = isA k) ∧ (∀ k, (rO k).length ≤ m.fls.length) ∧ (atf = atF (m.els.take i)) ∧ (isA = WR (m.els.take i)) ∧ (rI = UU m (m.els.take i)) ∧ (rO = K8 m (m.els.take i)) ∧ mz = m.els.length - i) ⟨0, [], (fun _ => zeroEl), (fun _ => false), [], (fun _ => []), [], [], (fun _ => []), [], rfl, M, Nat.zero_le _, fun _ => ⟨rfl, rfl⟩, fun _ => Nat.zero_le _, rfl, rfl, rfl, rfl, rfl⟩ ?_))))
  rintro _ w10 _ ⟨i, LA, atf, isA, LI, rI, FI, LO, rO, FO, rfl, M, hi, hA, hOl, hAe, hBe, hIe, hOe, rfl⟩
  refine srg (BM rfl rfl (nq (sx_seq (AF rfl (fun h39 => ?_) (fun h39 => ?_)))))
  ·have h39p := (odt h39)
   refine sx_skip (qx_seq (sx_seq (sx_block (srg ?_))))
   obtain ⟨x, hx⟩ := BZ (l := m.els) (i := i) A0
   obtain ⟨b_x, o_x, hA_x⟩ := B7 (k := 11) A0 ((M.mdN 6 rfl).md.els) hx
   refine ya rfl (AP i hA_x rfl rfl rfl (sl rfl) A0) (ya rfl (AH rfl rfl (BB El.len ((M.mdN 6 rfl).md.els) hA_x hx) underlying95 rfl AK) (CO M rfl AQ fun g9 w11 hg9 M => C2 M 0 rfl rfl AK rfl fun w12 M => nq (EG 36 (fun w' => Mem w AM [As.blk g9 95 (El.cells x), As.blk g31 90 [str m.id, str m.nm, .slice a'.V m.vars.length a'.vc, .slice a'.E m.els.length a'.ec, .slice a'.F m.fls.length a'.fc, .map (some g25), .map (some g26), .map (some g27), .map (some g28), .map (some g29)], As.mp g29 [], As.mp g26 [], As.mdp m a' F0, As.blk g1 62 (Md.cells m a)] w') CL ?_)))
   have M := M.drew
   refine oc 0 36 rfl rfl (M.pk [0, 1, 2, 5, 7, 8]) (oc 1 36 rfl rfl (M.pk [0, 1, 2, 5, 7, 8]) (oc 2 36 rfl rfl (M.pk [0, 1, 2, 5, 7, 8]) (ol 3 36 rfl rfl rfl (M.pk [0, 1, 2, 5, 7, 8]) (fun _ M => (M.cell 1 rfl rfl)) (oc 4 36 rfl rfl (M.pk [0, 1, 2, 5, 7, 8]) (ol 5 36 rfl rfl rfl (M.pk [0, 1, 2, 5, 7, 8]) (fun _ M => (M.cell 0 rfl rfl)) (oc 6 36 rfl rfl (M.pk [0, 1, 2, 5, 7, 8]) (oc 7 36 rfl rfl (M.pk [0, 1, 2, 5, 7, 8]) (oc 8 36 rfl rfl (M.pk [0, 1, 2, 5, 7, 8]) (ol 9 36 rfl rfl rfl (M.pk [0, 1, 2, 5, 7, 8]) (fun _ M => (M.cell 1 rfl rfl)) (oc 10 36 rfl rfl (M.pk [0, 1, 2, 5, 7, 8]) (ol 11 36 rfl rfl rfl (M.pk [0, 1, 2, 5, 7, 8]) (fun _ M => (M.cell 0 rfl rfl)) (oc 12 36 rfl rfl (M.pk [0, 1, 2, 5, 7, 8]) (oc 13 36 rfl rfl (M.pk [0, 1, 2, 5, 7, 8]) (oc 14 36 rfl rfl (M.pk [0, 1, 2, 5, 7, 8]) (ol 15 36 rfl rfl rfl (M.pk [0, 1, 2, 5, 7, 8]) (fun _ M => (M.cell 1 rfl rfl)) ?_)))))))))))))))
   refine oc 16 36 rfl rfl (M.pk [0, 1, 2, 5, 7, 8]) (ol 17 36 rfl rfl rfl (M.pk [0, 1, 2, 5, 7, 8]) (fun _ M => (M.cell 0 rfl rfl)) (oa 18 36 rfl rfl (M.pk [0, 1, 2, 5, 7, 8]) (fun _ M => AH (xs := El.cells x) rfl rfl (M.rdBlk 0 rfl rfl) underlying95 rfl AK) (oa 19 36 rfl rfl (M.pk [0, 1, 2, 5, 7, 8]) (fun _ M => AH (xs := Md.cells m a) rfl rfl (M.rdBlk 5 rfl rfl) underlying62 rfl B6) (oc 20 36 rfl rfl (M.pk [0, 1, 2, 5, 7, 8]) (ol 21 36 rfl rfl rfl (M.pk [0, 1, 2, 5, 7, 8]) (fun _ M => (M.cell 0 rfl rfl)) (oa 23 36 rfl rfl (M.pk [0, 1, 2, 5, 7, 8]) (fun _ M => AH (xs := Md.cells m a) rfl rfl (M.rdBlk 5 rfl rfl) underlying62 rfl B6) (oc 24 36 rfl rfl (M.pk [0, 1, 2, 5, 7, 8]) (ol 25 36 rfl rfl rfl (M.pk [0, 1, 2, 5, 7, 8]) (fun _ M => (M.cell 0 rfl rfl)) (C5 22 (some 64) gkr rfl (wn_none rfl) rfl rfl (AE rfl rfl call40) (oG m a x.id _ ho (hM.fr0 M.fr)) ?_)))))))))
   rintro _ w13 ⟨A64, c64, rfl, how13, hfw13⟩
   refine ⟨_, rfl, fun _ => (M.pk [0, 1, 2, 5, 7, 8]).step hfw13, ?_⟩
   have M := M.pushOwn hfw13 (Nat.le_refl _) how13
   have hL64 := M.ownLen 0 rfl
   refine C5 26 (some 68) gkr rfl (wn_none rfl) rfl rfl (AE rfl rfl call41) (iP m a x.id _ ho (hM.fr0 M.fr)) ?_
   rintro _ w14 ⟨A68, c68, rfl, how14, hfw14⟩
   refine ⟨_, rfl, fun _ => (M.pk [1, 2, 3, 6, 8, 9]).step hfw14, ?_⟩
   have M := M.pushOwn hfw14 (Nat.le_refl _) how14
   have hL68 := M.ownLen 0 rfl
   refine AR 27 (some 69) gkr rfl (wn_none rfl) rfl rfl (fun ρ hρ => JG rfl (hρ _ _ rfl) (hρ _ _ rfl) underlying85 underlying9 AQ (M.mpS 8 rfl)) ?_
   rintro _ w15 ⟨b69, rfl, hfw15, hEw15⟩
   have M := M.entA 8 rfl hfw15 hEw15
   refine ⟨fun _ => (M.pk [2, 3, 4, 7, 9, 10]), oc 28 36 rfl rfl (M.pk [2, 3, 4, 7, 9, 10]) (AR 29 none gkr rfl (wn_none rfl) rfl rfl (fun ρ hρ => I0 rfl (hρ _ _ rfl) (hρ _ _ rfl) (hρ _ _ rfl) (M.mpS 8 rfl)) ?_)⟩
   rintro _ w16 ⟨rfl, hfw16, hbw16⟩
   rw [JQ] at hbw16
   have M := M.putA 8 rfl hfw16 hbw16
   refine ⟨fun _ => (M.pk [2, 3, 4, 7, 9, 10]), AR 30 (some 71) gkr rfl (wn_none rfl) rfl rfl (fun ρ hρ => JG rfl (hρ _ _ rfl) (hρ _ _ rfl) underlying87 underlying9 EO ((M.rowS 6 rfl).map)) ?_⟩
   rintro _ w17 ⟨b71, rfl, hfw17, hEw17⟩
   have M := M.entR 6 rfl hfw17 hEw17
   refine ⟨fun _ => (M.pk [2, 3, 4, 7, 9, 10]), oc 31 36 rfl rfl (M.pk [2, 3, 4, 7, 9, 10]) (AR 32 none gkr rfl (wn_none rfl) rfl rfl (fun ρ hρ => I0 rfl (hρ _ _ rfl) (hρ _ _ rfl) (hρ _ _ rfl) ((M.rowS 6 rfl).map)) ?_)⟩
   rintro _ w18 ⟨rfl, hfw18, hbw18⟩
   obtain ⟨F2I, M⟩ := Mem.putR (M.pk [1, 6, 0, 2, 3, 4, 5, 7, 8, 9, 10]) hfw18 hbw18 rfl
   rw [JQ] at M
   have M := M.pk [1, 2, 3, 4, 5, 0, 6, 7, 8, 9]
   refine ⟨fun _ => (M.pk [1, 2, 3, 6, 8, 9]), AR 33 (some 73) gkr rfl (wn_none rfl) rfl rfl (fun ρ hρ => JG rfl (hρ _ _ rfl) (hρ _ _ rfl) underlying87 underlying9 EO ((M.rowS 4 rfl).map)) ?_⟩
   rintro _ w19 ⟨b73, rfl, hfw19, hEw19⟩
   have M := M.entR 4 rfl hfw19 hEw19
   refine ⟨fun _ => (M.pk [1, 2, 3, 6, 8, 9]), oc 34 36 rfl rfl (M.pk [1, 2, 3, 6, 8, 9]) (AR 35 none gkr rfl (wn_none rfl) rfl rfl (fun ρ hρ => I0 rfl (hρ _ _ rfl) (hρ _ _ rfl) (hρ _ _ rfl) ((M.rowS 4 rfl).map)) ?_)⟩
   rintro _ w20 ⟨rfl, hfw20, hbw20⟩
   obtain ⟨F2O, M⟩ := Mem.putR (M.pk [0, 4, 1, 2, 3, 5, 6, 7, 8, 9]) hfw20 hbw20 rfl
   rw [JQ] at M
   have M := M.pk [1, 2, 3, 0, 4, 5, 6, 7, 8]
   refine ⟨fun _ => (M.pk [0, 1, 2, 5, 7, 8]), fdn (qx_block_normal (qx_seq (sx_region (C1 rfl rfl (yb rfl (sxl_nil (fag ⟨i + 1, (CK LA x.id (.agg (El.cells x).toArray)), (fun k => if k = x.id then x else atf k), (fun k => if k = x.id then true else isA k), (CK LI x.id (.slice A64 (((DG m.fls x.id).map (fun u : Fl => u.id)).length) c64)), (fun k' => if k' = x.id then ((DG m.fls x.id).map (fun u : Fl => u.id)) else rI k'), F2I, (CK LO x.id (.slice A68 (((BI m.fls x.id).map (fun u : Fl => u.id)).length) c68)), (fun k' => if k' = x.id then ((BI m.fls x.id).map (fun u : Fl => u.id)) else rO k'), F2O, rfl, (M.pk [1, 2, 3, 4, 5, 6, 7, 8]), ?_, ?_, ?_, ?_, ?_, ?_, ?_, rfl⟩)))))))⟩
   ·omega
   ·exact sD hA
   ·exact o8 hOl
   ·rw [AJ hx, lZ, ← hAe]
   ·rw [AJ hx, dH, ← hBe]
   ·rw [AJ hx, dI, ← hIe]
   ·rw [AJ hx, WH, ← hOe]
  ·have h39p := (odf h39)
   refine sx_exit (qx_then_exit (qx_then_exit ?_))
   have hiE : i = m.els.length := by omega
   rw [hiE, List.take_length] at hAe hBe hIe hOe
   refine qx_block_hit (qx_seq (sx_seq (srg ?_)))
   iterate 4 refine yb rfl ?_
   refine B2 M 0 rfl rfl rfl (DP rfl rfl (AG rfl (sx_block ?_)))
   have M := M.pushE (As.cnd (fun _ => none) (fun _ => none) []) (fun _ _ h => by cases h) rfl
   refine flp [81, 80, 7] (fun ze e wr mz => ∃ (j : Nat) (LF : List (List UInt8 × Value)) (flf : List UInt8 → Fl) (isF : List UInt8 → Bool) (LC : List (List UInt8 × Value)) (cn : List UInt8 → Option (List UInt8)) (aC : List UInt8 → Option Addr) (FC : List Nat), e = (82, AA (j : Int)) :: ze ∧ Mem w AM [As.cnd cn aC FC, As.blk g31 90 [str m.id, str m.nm, .slice a'.V m.vars.length a'.vc, .slice a'.E m.els.length a'.ec, .slice a'.F m.fls.length a'.fc, .map (some g25), .map (some g26), .map (some g27), .map (some g28), .map (some g29)], As.mp g29 LC, As.rowS g28 LO none rO FO, As.rowS g27 LI none rI FI, As.mp g26 LF, As.mpS g25 LA none, As.mdp m a' F0, As.blk g1 62 (Md.cells m a)] wr ∧ (j ≤ m.fls.length) ∧ (∀ k, (BP LF k).getD (.agg zeroFl.cells.toArray) = .agg (flf k).cells.toArray ∧ (BP LF k).isSome = isF k) ∧ ((m.fls.take j).all IP = true) ∧ (∀ k, BP LC k = (cn k).map (fun s => .agg ((C8 s).1.cells (aC k)).toArray)) ∧ (flf = flF (m.fls.take j)) ∧ (isF = ST (m.fls.take j)) ∧ (cn = cnF (m.fls.take j)) ∧ mz = m.fls.length - j) ⟨0, [], (fun _ => zeroFl), (fun _ => false), [], (fun _ => none), (fun _ => none), [], rfl, M, Nat.zero_le _, fun _ => ⟨rfl, rfl⟩, rfl, fun _ => rfl, rfl, rfl, rfl, rfl⟩ ?_
   rintro _ w21 _ ⟨j, LF, flf, isF, LC, cn, aC, FC, rfl, M, hj, hFl, hC, hCn, hFe, hGe, hCe, rfl⟩
   refine srg (BM rfl rfl (nq (sx_seq (AF rfl (fun h83 => ?_) (fun h83 => ?_)))))
   ·have h83p := (odt h83)
    refine sx_skip (qx_seq (sx_seq (sx_block (srg ?_))))
    obtain ⟨f, hf⟩ := BZ (l := m.fls) (i := j) A0
    obtain ⟨b_f, o_f, hA_f⟩ := B7 (k := 4) A0 ((M.mdN 7 rfl).md.fls) hf
    refine ya rfl (AP j hA_f rfl rfl rfl (sl rfl) A0) (ya rfl (AH rfl rfl (BB Fl.len ((M.mdN 7 rfl).md.fls) hA_f hf) underlying109 rfl C4) (CO M rfl E9 fun g11 w22 hg11 M => C2 M 0 rfl rfl C4 rfl fun w23 M => nq (sx_seq (DL 7 CL gkr ?_))))
    have M := M.drew
    refine sb rfl (sb rfl (sb rfl (GZ M 2 rfl rfl rfl (sb rfl (GZ M 0 rfl rfl rfl (sa rfl (AH (xs := Fl.cells f) rfl rfl (M.rdBlk 0 rfl rfl) underlying109 rfl C4) (CB (ES M 6 (wn_none rfl) rfl rfl rfl rfl rfl underlying86 underlying9 rfl fun w24 M => nq (AC rfl (B2 M 0 rfl rfl rfl ?_))))))))))
    refine ya rfl (FV rfl rfl rfl) (nq (AF rfl (fun h95 => ?_) (fun h95 => ?_)))
    ·have h95p := (odf (BY h95))
     refine AC rfl (B2 M 0 rfl rfl rfl (cl 99 rfl (AE rfl rfl call42) (W9 f.cond _ (by have := (ho.fls f (List.mem_of_getElem? hf)).cond; omega) (hY.fr0 M.fr)) ?_))
     rintro _ w25 ⟨AX, FX, rfl, hat, hnx, hfw25⟩
     refine ⟨_, rfl, ?_⟩
     have M := M.push hfw25 (As.xn 112 (C8 f.cond).1 AX FX) hat hnx
     iterate 4 refine yb rfl ?_
     refine CO M rfl CR fun g12 w26 hg12 M => C2 M 0 rfl rfl AI rfl fun w27 M => yb rfl (AG rfl (sx_seq (AC rfl (FT rfl rfl (nq (AF rfl (fun h104 => ?_) (fun h104 => ?_)))))))
     ·exact AC rfl (yb rfl (gnr (qx_then_ret (qx_block_ret (qx_then_ret (qx_then_ret (qx_block_ret (qx_then_ret (BS rfl rfl rfl ⟨.inr ⟨YG hf h95 h104, rfl⟩, M.fr⟩)))))))))
     ·have h104p := (odt (BJ h104))
      refine sx_skip (qx_seq (DL 7 CL gkr ?_))
      have M := M.drew
      refine sb rfl (sb rfl (sb rfl (GZ M 4 rfl rfl rfl (sb rfl (GZ M 2 rfl rfl rfl (sa rfl (AH (xs := Xn.cells (C8 f.cond).1 AX) rfl rfl (M.rdBlk 0 rfl rfl) underlying112 rfl AI) (CB (ES M 5 (wn_none rfl) rfl rfl rfl rfl rfl underlying88 underlying9 rfl fun w28 M => sxl_nil (qx_block_normal (qx_seq (sx_region (C1 rfl rfl (yb rfl ?_)))))))))))))
      refine sxl_nil ?_
      have M := Mem.foldC f.id f.cond (M.pk [1, 3, 0, 2, 4, 5, 6, 7, 8, 9, 10, 11])
      refine fag ⟨j + 1, CK LF f.id (.agg (Fl.cells f).toArray), (fun k => if k = f.id then f else flf k), (fun k => if k = f.id then true else isF k), CK LC f.id (.agg (Xn.cells (C8 f.cond).1 AX).toArray), (fun k' => if k' = f.id then some f.cond else cn k'), (fun k' => if k' = f.id then AX else aC k'), (FX ++ FC), rfl, (M.pk [0, 3, 4, 5, 6, 7, 8, 9, 10]), ?_, ?_, ?_, ?_, ?_, ?_, ?_, rfl⟩
      ·omega
      ·exact kJ hFl
      ·first
        | exact M5 hC (AJ hf) (TT h95)
        | exact M5 hC (AJ hf) (S4 h95 h104)
      ·first
        | exact hCn
        | exact lC hCn
      ·rw [AJ hf, X2, ← hFe]
      ·rw [AJ hf, TL, ← hGe]
      ·first
        | rw [AJ hf, lD h95p, ← hCe]
        | rw [AJ hf, aP h95p, ← hCe]
    ·have h95p := (odt (BJ h95))
     refine sx_skip (qx_block_normal (qx_seq (sx_region (C1 rfl rfl (yb rfl (sxl_nil (fag ⟨j + 1, CK LF f.id (.agg (Fl.cells f).toArray), (fun k => if k = f.id then f else flf k), (fun k => if k = f.id then true else isF k), LC, cn, aC, FC, rfl, (M.pk [1, 2, 3, 4, 5, 6, 7, 8, 9]), ?_, ?_, ?_, ?_, ?_, ?_, ?_, rfl⟩)))))))
     ·omega
     ·exact kJ hFl
     ·first
       | exact M5 hC (AJ hf) (TT h95)
       | exact M5 hC (AJ hf) (S4 h95 h104)
     ·first
       | exact hCn
       | exact lC hCn
     ·rw [AJ hf, X2, ← hFe]
     ·rw [AJ hf, TL, ← hGe]
     ·first
       | rw [AJ hf, lD h95p, ← hCe]
       | rw [AJ hf, aP h95p, ← hCe]
   ·have h83p := (odf h83)
    refine sx_exit (qx_then_exit (qx_then_exit ?_))
    have hjE : j = m.fls.length := by omega
    rw [hjE, List.take_length] at hC hFe hGe hCe
    exact qx_block_hit (qx_seq (AC rfl (AV rfl rfl (gnr (BS rfl rfl rfl ⟨.inl ⟨cQ h22 hC, nY (M.pk [1, 7, 6, 5, 3, 4, 2, 0]) (fun k => (hA k).1) (fun k => (hA k).2) (fun k => (hFl k).1) (fun k => (hFl k).2) hOl hCn hAe hBe hIe hOe hFe hGe hCe⟩, M.fr⟩)))))
theorem rA (m : Md) (a : MdA) (w : World) (ho : MdOk m) (hM : MdIn w m a) (hY : Lay0 w) :
 Calls prog 16 #[.agg (Md.cells m a).toArray] w fun e w' => ((GS m = true ∧ ∃ gc c F, e = .returned (.tuple #[pg gc, AA 0]) ∧ CourseN w' m gc c F ∧ ∀ g ∈ F, w.heap.size ≤ g ∧ g < w'.heap.size) ∨ (GS m = false ∧ e = .returned (.tuple #[.pointer none, AA 140]))) ∧ Fr0 w w' := ZW m a w ho.b hM hY
end Go.Proofs.YtaheakjfkpkefaaGreatDoor
