/- Lemmas that the last text rests on. Condition: each says its own. -/
import Derived.Test.YtjaocmocdhckaaaGreatDoorZRu3
import Derived.Test.YtjaocmocdhckaaaGreatDoorZEx10
set_option maxHeartbeats 16000000
set_option maxRecDepth 100000
namespace Go.Proofs.YtjaocmocdhckaaaGreatDoor
open Go.RowKit
open Tryz
theorem Lay0.fr0 {w w' : World} (h : Lay0 w) (hf : Fr0 w w') : Lay0 w' := h.fr hf (fun _ hh => hh.elim)
def MQ (m : Md) (y : Fl) : Bool := (if (((decide ((((BK m.els y.frm).getD zeroEl).kind.toNat : Int) = (5 : Int))) && (decide ((1 : Int) < (((C9 m.fls y.frm).length : Nat) : Int)))) && (!decide (((BK m.els y.frm).getD zeroEl).dflt = y.id))) = true then (if (!decide (y.cond = [])) = true then (hZ m.vars y.cond) else false) else (decide (y.cond = [])))
theorem lL (m : Md) (a : MdA) (ix : IxA) (gx gp : Nat) (y : Fl) (w : World) (oy : FlOk y) (ho : MdOk m) (hx : IxAt w m a ix gx) (hp : Blk w gp 95 [pg gx]) (hY : Lay0 w) :
 Calls prog 94 #[.agg y.cells.toArray, pg gp] w fun e w' => e = .returned (.bool (MQ m y)) ∧ Fr0 w w' := by
 have hOl := EI m.fls y.frm
 have hnf := ho.nfls
 refine C2 func94 ntmps94 rfl fun M => srg (CN M rfl rfl fun g2 w1 hg2 M => yb rfl (nq (AD (CO 9 (fun w' => Mem w AV [As.blk g2 72 (Fl.cells y)] w') CU ?_))))
 have M := M.drew
 refine ol 0 9 rfl rfl rfl M (fun _ M => (Blk.c (hp.fr0 M.fr) 0 rfl)) (oc 1 9 rfl rfl M (oc 2 9 rfl rfl M (ol 3 9 rfl rfl rfl M (fun _ M => (Blk.c ((hx.fr0 M.fr).blk) 5 rfl)) (oc 4 9 rfl rfl M (ol 5 9 rfl rfl rfl M (fun _ M => (M.cell 0 rfl rfl)) (oa 6 9 rfl rfl M (fun _ M => BP rfl rfl rfl underlying62 underlying9 B4 ((hx.fr0 M.fr).E) (hx.getE _)) (fon M 7 4 rfl rfl B4 fun g4 w2 hg4 M => fop M 8 0 rfl rfl rfl AZ rfl (·.drop 1) fun w3 M => fdn (AA (AD (AD (EU CU gkr ?_)))))))))))
 have M := M.drew
 refine sb rfl (FK M 0 rfl rfl rfl (sa rfl (C3 rfl rfl rfl) (sb rfl (fvs 10 [4, 2, 1] [(25, .bool ((decide ((((BK m.els y.frm).getD zeroEl).kind.toNat : Int) = (5 : Int))) && (decide ((1 : Int) < (((C9 m.fls y.frm).length : Nat) : Int)))))] ?_ (fun k15 => ?_)))))
 ·refine sb rfl (fvs 6 [2, 1] [(32, .bool (((decide ((((BK m.els y.frm).getD zeroEl).kind.toNat : Int) = (5 : Int))) && (decide ((1 : Int) < (((C9 m.fls y.frm).length : Nat) : Int)))) && (!decide (((BK m.els y.frm).getD zeroEl).dflt = y.id))))] ?_ (fun k26 => ?_))
  ·refine FR (AA (AN rfl (fun h32 => ?_) (fun h32 => ?_)))
   ·have h32p := (And.intro (And.intro (odt (CF (CF h32).1).1) (odt (CF (CF h32).1).2)) (odf (CE (CF h32).2)))
    refine AD (DN 11 CU gkr ?_)
    have M := M.drew
    refine sb rfl (FK M 1 rfl rfl rfl (sa rfl (GK rfl rfl rfl) (sb rfl (E7 (d := 36) rfl (fun h36 => ?_) (fun h36 => ?_)))))
    ·have h36p := (odf (CE h36))
     refine gsg rfl (yp rfl) (gsg rfl (BU rfl rfl (sc rfl) (M.cell 1 rfl rfl)) (gsg rfl (BU rfl rfl (sc rfl) (Blk.c (hp.fr0 M.fr) 0 rfl)) (gsg rfl (yp rfl) (gsg rfl (yp rfl) (gsg rfl (yp rfl) (gsg rfl (BU rfl rfl (sc rfl) (Blk.c ((hx.fr0 M.fr).blk) 2 rfl)) (CS (B0 (some 44) (BD rfl rfl rfl) rfl rfl (AQ rfl rfl call95) (aU m.vars (by have := ho.nvars; omega) y.cond (by have := oy.cond; omega) _ _ _ (hY.fr0 M.fr) (hx.fr0 M.fr).md.vars) ?_))))))))
     rintro _ w4 ⟨rfl, hfw4⟩
     refine ⟨_, rfl, ?_⟩
     have M := M.step hfw4
     exact yb rfl (yb rfl (nq (AI (AE (gr1 rfl ⟨by rw [MQ, if_pos h32, if_pos h36], M.fr⟩)))))
    ·iterate 7 refine E3 rfl rfl rfl rfl rfl rfl ?_
     exact CS (yo rfl (yb rfl (yb rfl (nq (AI (AE (gr1 rfl ⟨by rw [MQ, if_pos h32, if_neg (AS h36)], M.fr⟩)))))))
   ·have h32p := ((DM h32).imp (fun z => ((DM z).imp (fun z => (odf z)) (fun z => (odf z)))) (fun z => (odt (BM z))))
    exact AL (AA (srg (yb rfl (BA M 1 rfl rfl rfl (ya rfl (D8 rfl rfl rfl) (yb rfl (nq (AI (gr1 rfl ⟨by rw [MQ, if_neg (AS h32)], M.fr⟩)))))))))
  refine E7 (d := 26) rfl (fun h26 => ?_) (fun h26 => ?_)
  ·exact gsg rfl (yp rfl) (gsg rfl (BU rfl rfl (sc rfl) (M.cell 0 rfl rfl)) (gsg rfl (yp rfl) (gsg rfl (BU rfl rfl (sc rfl) (M.cell 1 rfl rfl)) (gsg rfl (GK rfl rfl rfl) (sb rfl (k26 _ ⟨rfl, rfl, (by rw [h26]; rfl), trivial⟩))))))
  ·iterate 5 refine E3 rfl rfl rfl rfl rfl rfl ?_
   exact sb rfl (k26 _ ⟨rfl, rfl, (by rw [h26]; rfl), trivial⟩)
 refine E7 (d := 15) rfl (fun h15 => ?_) (fun h15 => ?_)
 ·exact gsg rfl (BU rfl rfl (sc rfl) (Blk.c (hp.fr0 M.fr) 0 rfl)) (gsg rfl (yp rfl) (gsg rfl (yp rfl) (gsg rfl (BU rfl rfl (sc rfl) (Blk.c ((hx.fr0 M.fr).blk) 7 rfl)) (gsg rfl (yp rfl) (gsg rfl (BU rfl rfl (sc rfl) (M.cell 1 rfl rfl)) (gsg rfl (BP rfl rfl rfl underlying140 underlying9 zr_sl_api_Flow ((hx.fr0 M.fr).O) (hx.getO _)) (gsg rfl (C7 rfl rfl (sl rfl)) (gsg rfl (G6 rfl rfl rfl) (sb rfl (k15 _ ⟨rfl, rfl, rfl, (by rw [h15]; rfl), trivial⟩))))))))))
 ·iterate 9 refine E3 rfl rfl rfl rfl rfl rfl ?_
  exact sb rfl (k15 _ ⟨rfl, rfl, rfl, (by rw [h15]; rfl), trivial⟩)
def VA (m : Md) : Option (List UInt8) := match ffE (IU m) m.els with
 | some k => some k
 | none => ffF (MQ m) m.fls
theorem lJ {m : Md} (h : (ffN (fun _ => (IU m)) 0 m.els).isSome = true) : Value.tuple #[str ((ffN (fun _ => (IU m)) 0 m.els).elim [] (fun x => x.id)), .bool true] = JJ (VA m) := by
 unfold VA ffE JJ
 cases hq : ffN (fun _ => (IU m)) 0 m.els with
 | none => rw [hq] at h; cases h
 | some x => rfl
theorem lI {m : Md} (h : (ffN (fun _ => (IU m)) 0 m.els).isSome = false) : Value.tuple #[str ((ffN (fun _ => (MQ m)) 0 m.fls).elim [] (fun x => x.id)), .bool (ffN (fun _ => (MQ m)) 0 m.fls).isSome] = JJ (VA m) := by
 rw [iP]
 unfold VA ffE
 cases hq : ffN (fun _ => (IU m)) 0 m.els with
 | none => rfl
 | some x => rw [hq] at h; cases h
theorem lK (m : Md) (a : MdA) (ix : IxA) (gx : Nat) (w : World) (ho : MdOk m) (hx : IxAt w m a ix gx) (hY : Lay0 w) :
 Calls prog 41 #[pg gx] w fun e w' => e = .returned (JJ (VA m)) ∧ Fr0 w w' := by
 refine C2 func41 ntmps41 rfl fun M => srg (DX M (AF rfl) rfl rfl 95 rfl rfl ([pg gx]) rfl fun g1 w1 hg1 M => yb rfl (yb rfl (nq (AD (srg (BA M 0 rfl rfl rfl (yb rfl (yb rfl (yb rfl ?_)))))))))
 refine yl rfl rfl (Blk.c ((hx.fr0 M.fr).blk) 3 rfl) (ya rfl (D9 (us := []) (vs := [pg g1]) rfl rfl rfl) (D1 M 13 rfl rfl call77 (IS _ _ m.els (by have := ho.nfls; have := ho.nels; have := ho.nvars; omega) 92 [pg g1] (IU m) _ (GI call92 (fun z hz w9 hf9 => lM m a ix gx _ z w9 (ho.els z hz) ho ((hx.fr0 M.fr).fr0 hf9) ((M.blk 0 rfl).fr0 hf9))) (M.rd hx.md.els)) fun w2 M => ?_))
 iterate 5 refine yb rfl ?_
 refine AC (AA (AD (AB (yb rfl (AC (AA (AN rfl (fun h16 => ?_) (fun h16 => ?_))))))))
 ·exact srg (yb rfl (yb rfl (yb rfl (nq (AI (AE (CD rfl rfl rfl ⟨congrArg Ending.returned (lJ h16), M.fr⟩)))))))
 ·refine AL (AA (srg (BA M 0 rfl rfl rfl (yb rfl (yb rfl (yb rfl (yl rfl rfl (Blk.c ((hx.fr0 M.fr).blk) 4 rfl) (ya rfl (D9 (us := []) (vs := [pg g1]) rfl rfl rfl) (D1 M 24 rfl rfl call80 (T0 _ _ m.fls (by have := ho.nfls; have := ho.nels; have := ho.nvars; omega) 94 [pg g1] (MQ m) _ (GI call94 (fun z hz w9 hf9 => lL m a ix gx _ z w9 (ho.fls z hz) ho ((hx.fr0 M.fr).fr0 hf9) ((M.blk 0 rfl).fr0 hf9) ((hY.fr0 M.fr).fr0 hf9))) (M.rd hx.md.fls)) fun w3 M => ?_)))))))))
  iterate 4 refine yb rfl ?_
  exact nq (AI (CD rfl rfl rfl ⟨congrArg Ending.returned (lI h16), M.fr⟩))
section
section
variable {P : Program} {e : Env} {w : World} {o : Oper}
theorem UP {t el n sz : Nat} (m : Nat) {x i : Operand} {cs : Array Value} {u : Value} (ho : o.op = .index t x i) (hx : ev e x = some (.agg cs)) (hi : ev e i = some (.int .i64 (m : Int))) (ht : ME P t = some (n, el, sz)) (hA : ∀ w, (isAgg el).run P w = .ok false w) (hm : m < n) (hu : cs[m * sz]? = some u) : Y P e o w u := fun ρ h => by
 unfold ME at ht
 split at ht
 ·rename_i el' n' hu'
  split at ht
  ·rename_i i' hi'
   simp only [Option.some.injEq, Prod.mk.injEq] at ht
   obtain ⟨rfl, rfl, rfl⟩ := ht
   have h1 : 0 ≤ (m : Int) := by omega
   unfold execOp
   simp [ho, h _ _ hx, h _ _ hi, Instr.index, asIntOf, run_underlying hu', h1, hm, sizeOf, typeInfo, hi', part, hA, hu]
  ·cases ht
 ·cases ht
end
theorem XR (A : Option Addr) (c : Nat) (l : List (List UInt8)) (hl : l.length ≤ 4611686018427387904) (f : FuncId) (cs : List Value) (p : List UInt8 → Bool) (w : World) (hP : PredJ prog f cs str l (fun _ => p) AV (fun _ _ => True) w) (hR : Rd w A (l.length * 1) (AK BW l)) :
 Calls prog 89 #[.slice A l.length c, .func (.func 90) #[] #[], .func (.func f) #[] cs.toArray] w fun e w' => e = .returned (.tuple #[str ((ffN (fun _ => p) 0 l).elim [] (fun x => x)), .bool (ffN (fun _ => p) 0 l).isSome]) ∧ Fr0 w w' :=
 (bZ A c l hl f cs (fun _ => p) AV (fun _ _ => True) w hP (fun _ hf => hR.fr0 hf) trivial).mono fun _ _ ⟨h1, _, h2⟩ => ⟨h1, h2⟩
def cntK (t : Nat) (l : List El) (k : List UInt8) : Nat := (l.filter fun x => decide (x.inn = k) && decide (x.kind.toNat = t)).length
def WK (l : List El) (k : List UInt8) : Value := .agg #[.int .i64 ((cntK 1 l k : Nat) : Int), .int .i64 ((cntK 2 l k : Nat) : Int)]
theorem jF (t : Nat) (l : List El) (k : List UInt8) : cntK t l k ≤ l.length := List.length_filter_le _ _
theorem T9 (t : Nat) (l : List El) (i : Nat) (k : List UInt8) : cntK t (l.take i) k ≤ l.length := Nat.le_trans (jF _ _ _) (by rw [List.length_take]; omega)
theorem HG (t : Nat) (l : List El) (x : El) (k : List UInt8) : cntK t (l ++ [x]) k = cntK t l k + (if x.inn = k ∧ x.kind.toNat = t then 1 else 0) := by
 unfold cntK
 rw [List.filter_append, List.length_append]
 congr 1
 by_cases h1 : x.inn = k <;> by_cases h2 : x.kind.toNat = t <;> simp [h1, h2]
section
variable {L : List (List UInt8 × Value)} {l l' : List El} {x : El} (hL : ∀ k, (CQ L k).getD (.agg #[.int .i64 0, .int .i64 0]) = WK l k) (hl : l' = l ++ [x])
include hL hl
theorem UG {a b : Nat} (ha : a = cntK 1 l' x.inn) (hb : b = cntK 2 l' x.inn) : ∀ k, (CQ (DJ L x.inn (.agg #[.int .i64 (a : Int), .int .i64 (b : Int)])) k).getD (.agg #[.int .i64 0, .int .i64 0]) = WK l' k := fun k => by
 rw [G2]
 by_cases h : k = x.inn
 ·subst h; subst ha; subst hb; rw [if_pos rfl]; rfl
 ·rw [if_neg h, hL]
  unfold WK
  rw [hl, HG, HG, if_neg (fun z => h z.1.symm), if_neg (fun z => h z.1.symm)]; rfl
theorem OZ (h : (x.kind.toNat : Int) = 1) : ∀ k, (CQ (DJ L x.inn (.agg #[.int .i64 ((cntK 1 l x.inn + 1 : Nat) : Int), .int .i64 ((cntK 2 l x.inn : Nat) : Int)])) k).getD (.agg #[.int .i64 0, .int .i64 0]) = WK l' k :=
 UG hL hl (by rw [hl, HG, if_pos ⟨rfl, by omega⟩]) (by rw [hl, HG, if_neg (fun z => by omega)]; rfl)
theorem UF (_h1 : ¬ (x.kind.toNat : Int) = 1) (h : (x.kind.toNat : Int) = 2) : ∀ k, (CQ (DJ L x.inn (.agg #[.int .i64 ((cntK 1 l x.inn : Nat) : Int), .int .i64 ((cntK 2 l x.inn + 1 : Nat) : Int)])) k).getD (.agg #[.int .i64 0, .int .i64 0]) = WK l' k :=
 UG hL hl (by rw [hl, HG, if_neg (fun z => by omega)]; rfl) (by rw [hl, HG, if_pos ⟨rfl, by omega⟩])
theorem RO (h1 : ¬ (x.kind.toNat : Int) = 1) (h : ¬ (x.kind.toNat : Int) = 2) : ∀ k, (CQ (DJ L x.inn (.agg #[.int .i64 ((cntK 1 l x.inn : Nat) : Int), .int .i64 ((cntK 2 l x.inn : Nat) : Int)])) k).getD (.agg #[.int .i64 0, .int .i64 0]) = WK l' k :=
 UG hL hl (by rw [hl, HG, if_neg (fun z => by omega)]; rfl) (by rw [hl, HG, if_neg (fun z => by omega)]; rfl)
end
def I4 (l : List El) : List (List UInt8) := (l.filter fun x => decide (x.kind.toNat = 10)).map (·.id)
theorem PC {l : List El} {x : El} (h : (x.kind.toNat : Int) = 10) : I4 (l ++ [x]) = I4 l ++ [x.id] := by
 unfold I4
 rw [List.filter_append, List.map_append]
 simp [show x.kind.toNat = 10 by omega]
theorem QQ {l : List El} {x : El} (h : ¬ (x.kind.toNat : Int) = 10) : I4 (l ++ [x]) = I4 l := by
 unfold I4
 rw [List.filter_append]
 simp [show ¬ x.kind.toNat = 10 by omega]
def RD (m : Md) (k : List UInt8) : Bool := (decide (((cntK 1 m.els k : Nat) : Int) = (1 : Int))) && (decide ((1 : Int) ≤ ((cntK 2 m.els k : Nat) : Int)))
def ffS (p : List UInt8 → Bool) (l : List (List UInt8)) : Option (List UInt8) := ffN (fun _ => p) 0 l
theorem pM (p : List UInt8 → Bool) (l : List (List UInt8)) : Value.tuple #[str ((ffN (fun _ => p) 0 l).elim [] (fun x => x)), .bool (ffN (fun _ => p) 0 l).isSome] = JJ (ffS p l) := by unfold JJ ffS; cases ffN (fun _ => p) 0 l <;> rfl
def ZD (m : Md) : Option (List UInt8) := ffS (RD m) ([] :: I4 m.els)
theorem NP : (prog.info? 153).map (·.size) = some 2 := by kernel_rfl
theorem MG : (prog.info? 152).map (·.size) = some 1 := by kernel_rfl
theorem NF : (prog.info? 153).map (·.zero) = some (some (.agg #[.int .i64 0, .int .i64 0])) := by kernel_rfl
theorem MF : (prog.info? 152).map (·.zero) = some (some (.map none)) := by kernel_rfl
theorem iJ (m : Md) (L : List (List UInt8 × Value)) (hL : ∀ k, (CQ L k).getD (.agg #[.int .i64 0, .int .i64 0]) = WK m.els k) (g4 g11 : Nat) (k : List UInt8) (w : World) (hp : Blk w g4 152 [.map (some g11)]) (hm : Mp w g11 L) :
 Calls prog 91 #[str k, pg g4] w fun e w' => e = .returned (.bool (RD m k)) ∧ Fr0 w w' := by
 refine C2 func91 ntmps91 rfl fun M => AD (AB (yb rfl (AC (AA (AD (AB (yl rfl rfl (Blk.c (hp.fr0 M.fr) 0 rfl) (yb rfl (ya rfl (BP rfl rfl rfl underlying152 underlying9 NF (hm.fr M.fr (fun hh => hh)) (hL _)) (ya rfl (UP (m := 0) rfl rfl rfl (ar rfl) isAgg3 BR rfl) (CI rfl rfl (yb rfl (fvm M 6 [3] [(15, .bool ((decide (((cntK 1 m.els k : Nat) : Int) = (1 : Int))) && (decide ((1 : Int) ≤ ((cntK 2 m.els k : Nat) : Int)))))] ?_ (fun k9 => ?_))))))))))))))
 ·intro w1 M
  exact yb rfl (nq (AI (gr1 rfl ⟨rfl, M.fr⟩)))
 refine AP (d := 9) rfl (fun h9 => ?_) (fun h9 => ?_)
 ·exact ym rfl rfl (Blk.c (hp.fr0 M.fr) 0 rfl) (gyq rfl (yd rfl (BP rfl rfl rfl underlying152 underlying9 NF (hm.fr M.fr (fun hh => hh)) (hL _)) (yd rfl (UP (m := 1) rfl rfl rfl (ar rfl) isAgg3 BR rfl) (yd rfl (FG rfl rfl rfl) (yb rfl (k9 M ⟨rfl, (by rw [h9]; rfl), trivial⟩))))))
 ·iterate 5 refine yo rfl ?_
  exact yb rfl (k9 M ⟨rfl, (by rw [h9]; rfl), trivial⟩)
theorem iI (m : Md) (a : MdA) (ix : IxA) (gx : Nat) (w : World) (ho : MdOk m) (hx : IxAt w m a ix gx) :
 Calls prog 40 #[pg gx] w fun e w' => e = .returned (JJ (ZD m)) ∧ Fr0 w w' := by
 have hne := ho.nels
 refine C2 func40 ntmps40 rfl fun M => srg (yb rfl (yb rfl (nq (srg (I3 M (AF rfl) rfl rfl rfl fun g11 w1 hg11 M => DG M (AF rfl) rfl rfl 152 rfl [.map none] MF rfl fun g4 w2 hg4 M => gp1 M 0 rfl rfl rfl MG fun w3 M => AC ?_)))))
 refine AA (AD (srg ?_))
 iterate 4 refine yb rfl ?_
 refine yl rfl rfl (Blk.c ((hx.fr0 M.fr).blk) 3 rfl) (ya rfl (C7 rfl rfl (sl rfl)) (yb rfl (nq (AR (flp [17, 16, 4, 0] (fun ze e wr mz => ∃ (i : Nat) (L : List (List UInt8 × Value)), e = (18, .int .i64 ((i : Nat) : Int)) :: ze ∧ Mem w AV [As.blk g4 152 [.map (some g11)], As.mp g11 L] wr ∧ (i ≤ m.els.length) ∧ (∀ k, (CQ L k).getD (.agg #[.int .i64 0, .int .i64 0]) = WK (m.els.take i) k) ∧ mz = m.els.length - i) ⟨0, [], rfl, M, Nat.zero_le _, fun _ => rfl, rfl⟩ ?_)))))
 rintro _ w4 _ ⟨i, L, rfl, M, hi, hL, rfl⟩
 refine AD (AB (CB rfl rfl (AC (AA (AD (AN rfl (fun h19 => ?_) (fun h19 => ?_)))))))
 ·have h19p := (odt h19)
  refine AL (AA (AD (AR (srg ?_))))
  obtain ⟨u, hu⟩ := CA (l := m.els) (i := i) AO
  obtain ⟨b_u, o_u, hA_u⟩ := BI (k := 11) AO (M.rd hx.md.els) hu
  refine ya rfl (B1 i hA_u rfl rfl rfl (sl rfl) AO) (ya rfl (AT rfl rfl (BQ El.len (M.rd hx.md.els) hA_u hu) underlying69 rfl AZ) (D6 M rfl B4 fun g6 w5 hg6 M => C1 M 0 rfl rfl AZ rfl fun w6 M => nq (srg (BA M 1 rfl rfl rfl (yb rfl (BA M 0 rfl rfl rfl (ya rfl (BP rfl rfl rfl underlying152 underlying9 NF (M.mp 2 rfl) (hL _)) (D6 M rfl NF fun g7 w7 hg7 M => ?_))))))))
  refine C1 M 0 rfl rfl NP rfl fun w8 M => nq (AD (srg (yb rfl (BA M 1 rfl rfl rfl (nq (AR (srg (CI rfl rfl (yb rfl ?_)))))))))
  refine AC (AA (AN rfl (fun h28 => ?_) (fun h28 => ?_)))
  ·have h28p := (odt h28)
   have hc1 := T9 1 m.els i u.inn
   refine AB (ya rfl (EZ rfl rfl rfl (ar rfl) AO) (BA M 0 rfl rfl rfl (ya rfl (BF rfl rfl rfl AO) (ya rfl (EZ rfl rfl rfl (ar rfl) AO) (gp1 M 0 rfl rfl rfl GM fun w9 M => AC (AH (AA (AB (BA M 2 rfl rfl rfl (yb rfl (BA M 1 rfl rfl rfl (CR M 0 rfl rfl underlying153 NP rfl (FS M 3 (AF rfl) rfl rfl rfl rfl rfl underlying152 underlying9 rfl ?_)))))))))))))
   intro w10 M
   refine AC (AH (AA (AB (ya rfl (BF rfl rfl rfl AO) (yb rfl (AC (fag ⟨i + 1, DJ L u.inn (.agg #[.int .i64 (((cntK 1 (m.els.take i) u.inn) + 1 : Nat) : Int), .int .i64 ((cntK 2 (m.els.take i) u.inn : Nat) : Int)]), rfl, (M.pk [2, 3]), ?_, ?_, rfl⟩)))))))
   ·omega
   ·first
     | exact OZ hL (B2 hu) h28p
     | exact UF hL (B2 hu) h28p h34p
     | exact RO hL (B2 hu) h28p h34p
  ·have h28p := (odf h28)
   refine AD (AB (CI rfl rfl (yb rfl (AC (AA (AN rfl (fun h34 => ?_) (fun h34 => ?_)))))))
   ·have h34p := (odt h34)
    have hc2 := T9 2 m.els i u.inn
    refine AB (ya rfl (EZ rfl rfl rfl (ar rfl) AO) (BA M 0 rfl rfl rfl (ya rfl (BF rfl rfl rfl AO) (ya rfl (EZ rfl rfl rfl (ar rfl) AO) (gp1 M 0 rfl rfl rfl GM fun w11 M => AC (AH (AA (AB (BA M 2 rfl rfl rfl (yb rfl (BA M 1 rfl rfl rfl (CR M 0 rfl rfl underlying153 NP rfl (FS M 3 (AF rfl) rfl rfl rfl rfl rfl underlying152 underlying9 rfl ?_)))))))))))))
    intro w12 M
    refine AC (AH (AA (AB (ya rfl (BF rfl rfl rfl AO) (yb rfl (AC (fag ⟨i + 1, DJ L u.inn (.agg #[.int .i64 ((cntK 1 (m.els.take i) u.inn : Nat) : Int), .int .i64 (((cntK 2 (m.els.take i) u.inn) + 1 : Nat) : Int)]), rfl, (M.pk [2, 3]), ?_, ?_, rfl⟩)))))))
    ·omega
    ·first
      | exact OZ hL (B2 hu) h28p
      | exact UF hL (B2 hu) h28p h34p
      | exact RO hL (B2 hu) h28p h34p
   ·have h34p := (odf h34)
    refine AL (AH (AA (AB (BA M 2 rfl rfl rfl (yb rfl (BA M 1 rfl rfl rfl (CR M 0 rfl rfl underlying153 NP rfl (FS M 3 (AF rfl) rfl rfl rfl rfl rfl underlying152 underlying9 rfl fun w13 M => AC (AH (AA (AB (ya rfl (BF rfl rfl rfl AO) (yb rfl ?_)))))))))))))
    refine AC (fag ⟨i + 1, DJ L u.inn (.agg #[.int .i64 ((cntK 1 (m.els.take i) u.inn : Nat) : Int), .int .i64 ((cntK 2 (m.els.take i) u.inn : Nat) : Int)]), rfl, (M.pk [2, 3]), ?_, ?_, rfl⟩)
    ·omega
    ·first
      | exact OZ hL (B2 hu) h28p
      | exact UF hL (B2 hu) h28p h34p
      | exact RO hL (B2 hu) h28p h34p
 ·have h19p := (odf h19)
  refine BG (AJ (AJ ?_))
  have hiE : i = m.els.length := by omega
  rw [hiE, List.take_length] at hL
  refine AY (AA (srg (DA M (AF rfl) rfl rfl [str []] ([str []]) rfl rfl rfl rfl underlying36 CW rfl rfl (GX rfl) rfl fun g45 w14 hg45 M => yb rfl (nq (AD (srg ?_))))))
  iterate 4 refine yb rfl ?_
  refine yl rfl rfl (Blk.c ((hx.fr0 M.fr).blk) 3 rfl) (ya rfl (C7 rfl rfl (sl rfl)) (yb rfl (nq (AR ?_))))
  have M := M.blkOwn 0 (size := 1) (n := 1) rfl rfl (by unfold maxLen; omega)
  refine flp [51, 50, 4] (fun ze e wr mz => ∃ (j : Nat) (acc : List (List UInt8)) (A : Option Addr) (c : Nat), e = (8, .slice A acc.length c) :: (52, .int .i64 ((j : Nat) : Int)) :: ze ∧ Mem w AV [As.own w.heap.size 9 1 (.slice A acc.length c) acc.length (AK BW acc), As.blk g4 152 [.map (some g11)], As.mp g11 L] wr ∧ (j ≤ m.els.length) ∧ (acc = [] :: I4 (m.els.take j)) ∧ (acc.length ≤ j + 1) ∧ mz = m.els.length - j) ⟨0, [[]], some ⟨g45, 0, none⟩, 1, rfl, M, Nat.zero_le _, rfl, Nat.le_refl _, rfl⟩ ?_
  rintro _ w15 _ ⟨j, acc, A, c, rfl, M, hj, hacc, hal, rfl⟩
  refine AD (AB (CB rfl rfl (AC (AA (AD (AN rfl (fun h53 => ?_) (fun h53 => ?_)))))))
  ·have h53p := (odt h53)
   refine AL (AA (AD (AR (srg ?_))))
   obtain ⟨v, hv⟩ := CA (l := m.els) (i := j) AO
   obtain ⟨b_v, o_v, hA_v⟩ := BI (k := 11) AO (M.rd hx.md.els) hv
   refine ya rfl (B1 j hA_v rfl rfl rfl (sl rfl) AO) (ya rfl (AT rfl rfl (BQ El.len (M.rd hx.md.els) hA_v hv) underlying69 rfl AZ) (D6 M rfl B4 fun g10 w16 hg10 M => C1 M 0 rfl rfl AZ rfl fun w17 M => AC (AA (AD (AB (yb rfl (BA M 0 rfl rfl rfl (CI rfl rfl (AC (AA (AN rfl (fun h58 => ?_) (fun h58 => ?_))))))))))))
   ·have h58p := (odt h58)
    refine AB (yb rfl (yb rfl (BA M 0 rfl rfl rfl (DA M (AF rfl) rfl rfl [str v.id] ([str v.id]) rfl rfl rfl rfl underlying36 CW rfl rfl (GX rfl) rfl fun g62 w18 hg62 M => ED (len' := (acc ++ [v.id]).length) (xs' := AK BW (acc ++ [v.id])) M 2 (AF rfl) rfl rfl rfl rfl rfl rfl (M.rdBlk 0 rfl rfl) underlying36 DB rfl BR (BL rfl) (Nat.le_refl _) (Nat.le_refl _) (by first | omega | (simp <;> omega)) (by unfold maxLen; first | omega | (simp only [List.length_append, List.length_cons, List.length_nil]; omega)) (by simp) (by simp [AK, BW]) fun A63 c63 w19 M => yb rfl (AC (AH (AA (AB (ya rfl (BF rfl rfl rfl AO) (yb rfl (AC ?_)))))))))))
    refine fag ⟨j + 1, acc ++ [v.id], A63, c63, rfl, (M.pk [2, 3, 4]), ?_, ?_, ?_, rfl⟩
    ·omega
    ·first
      | (rw [hacc, B2 hv, PC h58p]; rfl)
      | (rw [hacc, B2 hv, QQ h58p])
    ·first | omega | (simp only [List.length_append, List.length_cons, List.length_nil]; omega)
   ·have h58p := (odf h58)
    refine AL (AH (AA (AB (ya rfl (BF rfl rfl rfl AO) (yb rfl (AC (fag ⟨j + 1, acc, A, c, rfl, (M.pk [1, 2, 3]), ?_, ?_, ?_, rfl⟩)))))))
    ·omega
    ·first
      | (rw [hacc, B2 hv, PC h58p]; rfl)
      | (rw [hacc, B2 hv, QQ h58p])
    ·first | omega | (simp only [List.length_append, List.length_cons, List.length_nil]; omega)
  ·have h53p := (odf h53)
   refine BG (AJ (AJ ?_))
   have hjE : j = m.els.length := by omega
   rw [hjE, List.take_length] at hacc
   refine AY (AA (srg (yb rfl (ya rfl (D9 (us := []) (vs := [pg g4]) rfl rfl rfl) (D1 M 67 rfl rfl call89 (XR _ _ acc (by have := ho.nels; omega) 91 [pg g4] (RD m) _ (GI call91 (fun z _ w9 hf9 => iJ m L hL g4 g11 z w9 ((M.blk 1 rfl).fr0 hf9) ((M.mp 2 rfl).fr hf9 (fun hh => hh)))) (M.rdOwn 0 rfl)) fun w20 M => ?_)))))
   iterate 4 refine yb rfl ?_
   exact nq (AI (CD rfl rfl rfl ⟨by rw [ZD, ← hacc]; exact congrArg Ending.returned (pM _ _), M.fr⟩))
end
end Go.Proofs.YtjaocmocdhckaaaGreatDoor
