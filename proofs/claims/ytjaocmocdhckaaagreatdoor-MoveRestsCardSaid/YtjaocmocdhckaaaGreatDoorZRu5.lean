/- Lemmas that the last text rests on. Condition: each says its own. -/
import Derived.Test.YtjaocmocdhckaaaGreatDoorZRu3
import Derived.Test.YtjaocmocdhckaaaGreatDoorZEx10
set_option maxHeartbeats 16000000
set_option maxRecDepth 100000
namespace Go.Proofs.YtjaocmocdhckaaaGreatDoor
open Go.RowKit
open Tryz
theorem Lay0.fr0 {w w' : World} (h : Lay0 w) (hf : Fr0 w w') : Lay0 w' := h.fr hf (fun _ hh => hh.elim)
def N9 (m : Md) (y : Fl) : Bool := (if (((decide ((((BK m.els y.frm).getD zeroEl).kind.toNat : Int) = (5 : Int))) && (decide ((1 : Int) < (((CE m.fls y.frm).length : Nat) : Int)))) && (!decide (((BK m.els y.frm).getD zeroEl).dflt = y.id))) = true then (if (!decide (y.cond = [])) = true then (j4 m.vars y.cond) else false) else (decide (y.cond = [])))
theorem mF (m : Md) (a : MdA) (ix : IxA) (gx gp : Nat) (y : Fl) (w : World) (oy : FlOk y) (ho : MdOk m) (hx : IxAt w m a ix gx) (hp : Blk w gp 95 [pg gx]) (hY : Lay0 w) :
 Calls prog 94 #[.agg y.cells.toArray, pg gp] w (CG w (.bool (N9 m y))) := by
 have hOl := EM m.fls y.frm
 have hnf := ho.nfls
 refine C5 func94 ntmps94 rfl fun M => srg (CR M rfl rfl fun g2 w1 hg2 M => AY rfl (AF (CV 9 (fun w' => Mem w B0 [As.blk g2 72 (Fl.cells y)] w') CZ ?_)))
 have M := M.drew
 refine ol 0 9 rfl rfl rfl M (fun _ M => (Blk.c (hp.fr0 M.fr) 0 rfl)) (oc 1 9 rfl rfl M (oc 2 9 rfl rfl M (ol 3 9 rfl rfl rfl M (fun _ M => (Blk.c ((hx.fr0 M.fr).blk) 5 rfl)) (oc 4 9 rfl rfl M (ol 5 9 rfl rfl rfl M (fun _ M => (M.cell 0 rfl rfl)) (oa 6 9 rfl rfl M (fun _ M => BT rfl rfl rfl underlying62 underlying9 B6 ((hx.fr0 M.fr).E) (hx.getE _)) (fon M 7 4 rfl rfl B6 fun g4 w2 hg4 M => fop M 8 0 rfl rfl rfl B2 rfl (·.drop 1) fun w3 M => fdn (AD (AF (AF (ER CZ gkr ?_)))))))))))
 have M := M.drew
 refine sb rfl (FL M 0 rfl rfl rfl (sa rfl (BZ rfl rfl rfl) (sb rfl (fvs 10 [4, 2, 1] [(25, .bool ((decide ((((BK m.els y.frm).getD zeroEl).kind.toNat : Int) = (5 : Int))) && (decide ((1 : Int) < (((CE m.fls y.frm).length : Nat) : Int)))))] ?_ (fun k15 => ?_)))))
 ·refine sb rfl (fvs 6 [2, 1] [(32, .bool (((decide ((((BK m.els y.frm).getD zeroEl).kind.toNat : Int) = (5 : Int))) && (decide ((1 : Int) < (((CE m.fls y.frm).length : Nat) : Int)))) && (!decide (((BK m.els y.frm).getD zeroEl).dflt = y.id))))] ?_ (fun k26 => ?_))
  ·refine FA (AD (AL rfl (fun h32 => ?_) (fun h32 => ?_)))
   ·have h32p := (And.intro (And.intro (odt (CL (CL h32).1).1) (odt (CL (CL h32).1).2)) (odf (CK (CL h32).2)))
    refine AF (DP 11 CZ gkr ?_)
    have M := M.drew
    refine sb rfl (FL M 1 rfl rfl rfl (sa rfl (FP rfl rfl rfl) (sb rfl (DU (d := 36) rfl (fun h36 => ?_) (fun h36 => ?_)))))
    ·have h36p := (odf (CK h36))
     refine gsg rfl (yp rfl) (gsg rfl (BW rfl rfl (sc rfl) (M.cell 1 rfl rfl)) (gsg rfl (BW rfl rfl (sc rfl) (Blk.c (hp.fr0 M.fr) 0 rfl)) (gsg rfl (yp rfl) (gsg rfl (yp rfl) (gsg rfl (yp rfl) (gsg rfl (BW rfl rfl (sc rfl) (Blk.c ((hx.fr0 M.fr).blk) 2 rfl)) (CS (B3 (some 44) (BG rfl rfl rfl) rfl rfl (AP rfl rfl call95) (bR m.vars (by have := ho.nvars; omega) y.cond (by have := oy.cond; omega) _ _ _ (hY.fr0 M.fr) (hx.fr0 M.fr).md.vars) ?_))))))))
     rintro _ w4 ⟨rfl, hfw4⟩
     refine ⟨_, rfl, ?_⟩
     have M := M.step hfw4
     exact BM rfl rfl (gnr (AB (gr1 rfl ⟨by rw [N9, if_pos h32, if_pos h36], M.fr⟩)))
    ·iterate 7 refine DV rfl rfl rfl rfl rfl rfl ?_
     exact CS (yo rfl (BM rfl rfl (gnr (AB (gr1 rfl ⟨by rw [N9, if_pos h32, AT h36], M.fr⟩)))))
   ·have h32p := ((DT h32).imp (fun z => ((DT z).imp (fun z => (odf z)) (fun z => (odf z)))) (fun z => (odt (BQ z))))
    exact AI (AD (AQ rfl (BC M 1 rfl rfl rfl (ya rfl (DM rfl rfl rfl) (yb rfl (gnr (gr1 rfl ⟨by rw [N9, AT h32], M.fr⟩)))))))
  refine DU (d := 26) rfl (fun h26 => ?_) (fun h26 => ?_)
  ·exact gsg rfl (yp rfl) (gsg rfl (BW rfl rfl (sc rfl) (M.cell 0 rfl rfl)) (gsg rfl (yp rfl) (gsg rfl (BW rfl rfl (sc rfl) (M.cell 1 rfl rfl)) (gsg rfl (FP rfl rfl rfl) (sb rfl (k26 _ ⟨rfl, rfl, (by rw [h26]; rfl), trivial⟩))))))
  ·iterate 5 refine DV rfl rfl rfl rfl rfl rfl ?_
   exact sb rfl (k26 _ ⟨rfl, rfl, (by rw [h26]; rfl), trivial⟩)
 refine DU (d := 15) rfl (fun h15 => ?_) (fun h15 => ?_)
 ·exact gsg rfl (BW rfl rfl (sc rfl) (Blk.c (hp.fr0 M.fr) 0 rfl)) (gsg rfl (yp rfl) (gsg rfl (yp rfl) (gsg rfl (BW rfl rfl (sc rfl) (Blk.c ((hx.fr0 M.fr).blk) 7 rfl)) (gsg rfl (yp rfl) (gsg rfl (BW rfl rfl (sc rfl) (M.cell 1 rfl rfl)) (gsg rfl (BT rfl rfl rfl underlying140 underlying9 zr_sl_api_Flow ((hx.fr0 M.fr).O) (hx.getO _)) (gsg rfl (C3 rfl rfl (sl rfl)) (gsg rfl (GC rfl rfl rfl) (sb rfl (k15 _ ⟨rfl, rfl, rfl, (by rw [h15]; rfl), trivial⟩))))))))))
 ·iterate 9 refine DV rfl rfl rfl rfl rfl rfl ?_
  exact sb rfl (k15 _ ⟨rfl, rfl, rfl, (by rw [h15]; rfl), trivial⟩)
def W2 (m : Md) : Option (List UInt8) := match ffE (J8 m) m.els with
 | some k => some k
 | none => ffF (N9 m) m.fls
theorem mD {m : Md} (h : (ffN (fun _ => (J8 m)) 0 m.els).isSome = true) : Value.tuple #[str ((ffN (fun _ => (J8 m)) 0 m.els).elim [] (fun x => x.id)), .bool true] = JZ (W2 m) := by
 unfold W2 ffE JZ
 cases hq : ffN (fun _ => (J8 m)) 0 m.els with
 | none => rw [hq] at h; cases h
 | some x => rfl
theorem mC {m : Md} (h : (ffN (fun _ => (J8 m)) 0 m.els).isSome = false) : Value.tuple #[str ((ffN (fun _ => (N9 m)) 0 m.fls).elim [] (fun x => x.id)), .bool (ffN (fun _ => (N9 m)) 0 m.fls).isSome] = JZ (W2 m) := by
 rw [jN]
 unfold W2 ffE
 cases hq : ffN (fun _ => (J8 m)) 0 m.els with
 | none => rfl
 | some x => rw [hq] at h; cases h
theorem mE (m : Md) (a : MdA) (ix : IxA) (gx : Nat) (w : World) (ho : MdOk m) (hx : IxAt w m a ix gx) (hY : Lay0 w) :
 Calls prog 41 #[pg gx] w (CG w (JZ (W2 m))) := by
 refine C5 func41 ntmps41 rfl fun M => srg (E3 M (AA rfl) rfl rfl 95 rfl rfl ([pg gx]) rfl fun g1 w1 hg1 M => yb rfl (AY rfl (AF (srg (BC M 0 rfl rfl rfl (BM rfl rfl (yb rfl ?_)))))))
 refine yl rfl rfl (Blk.c ((hx.fr0 M.fr).blk) 3 rfl) (ya rfl (DE (us := []) (vs := [pg g1]) rfl rfl rfl) (D4 M 13 rfl rfl call77 (J4 _ _ m.els (by have := ho.nfls; have := ho.nels; have := ho.nvars; omega) 92 [pg g1] (J8 m) _ (GN call92 (fun z hz w9 hf9 => mG m a ix gx _ z w9 (ho.els z hz) ho ((hx.fr0 M.fr).fr0 hf9) ((M.blk 0 rfl).fr0 hf9))) (M.rd hx.md.els)) fun w2 M => ?_))
 iterate 5 refine yb rfl ?_
 refine N2 (AY rfl (AL rfl (fun h16 => ?_) (fun h16 => ?_)))
 ·exact AQ rfl (BM rfl rfl (gnr (AB (CI rfl rfl rfl ⟨congrArg Ending.returned (mD h16), M.fr⟩))))
 ·refine AI (AD (srg (BC M 0 rfl rfl rfl (BM rfl rfl (yb rfl (yl rfl rfl (Blk.c ((hx.fr0 M.fr).blk) 4 rfl) (ya rfl (DE (us := []) (vs := [pg g1]) rfl rfl rfl) (D4 M 24 rfl rfl call80 (TS _ _ m.fls (by have := ho.nfls; have := ho.nels; have := ho.nvars; omega) 94 [pg g1] (N9 m) _ (GN call94 (fun z hz w9 hf9 => mF m a ix gx _ z w9 (ho.fls z hz) ho ((hx.fr0 M.fr).fr0 hf9) ((M.blk 0 rfl).fr0 hf9) ((hY.fr0 M.fr).fr0 hf9))) (M.rd hx.md.fls)) fun w3 M => ?_))))))))
  iterate 4 refine yb rfl ?_
  exact gnr (CI rfl rfl rfl ⟨congrArg Ending.returned (mC h16), M.fr⟩)
section
section
variable {P : Program} {e : Env} {w : World} {o : Oper}
theorem VH {t el n sz : Nat} (m : Nat) {x i : Operand} {cs : Array Value} {u : Value} (ho : o.op = .index t x i) (hx : ev e x = some (.agg cs)) (hi : ev e i = some (AJ (m : Int))) (ht : MX P t = some (n, el, sz)) (hA : ∀ w, (isAgg el).run P w = .ok false w) (hm : m < n) (hu : cs[m * sz]? = some u) : Y P e o w u := fun ρ h => by
 unfold MX at ht
 split at ht
 ·rename_i el' n' hu'
  split at ht
  ·rename_i i' hi'
   simp only [Option.some.injEq, Prod.mk.injEq] at ht
   obtain ⟨rfl, rfl, rfl⟩ := ht
   have h1 : 0 ≤ (m : Int) := by omega
   unfold execOp
   simp [ho, h _ _ hx, h _ _ hi, Instr.index, asIntOf, run_underlying hu', h1, hm, sizeOf, typeInfo, hi', part, hA, hu]
  ·cases ht
 ·cases ht
end
theorem YM (A : Option Addr) (c : Nat) (l : List (List UInt8)) (hl : l.length ≤ 4611686018427387904) (f : FuncId) (cs : List Value) (p : List UInt8 → Bool) (w : World) (hP : PredJ prog f cs str l (fun _ => p) B0 (fun _ _ => True) w) (hR : Rd w A (l.length * 1) (AH BY l)) :
 Calls prog 89 #[.slice A l.length c, .func (.func 90) #[] #[], .func (.func f) #[] cs.toArray] w (CG w (.tuple #[str ((ffN (fun _ => p) 0 l).elim [] (fun x => x)), .bool (ffN (fun _ => p) 0 l).isSome])) :=
 (cY A c l hl f cs (fun _ => p) B0 (fun _ _ => True) w hP (fun _ hf => hR.fr0 hf) trivial).mono fun _ _ ⟨h1, _, h2⟩ => ⟨h1, h2⟩
def cntK (t : Nat) (l : List El) (k : List UInt8) : Nat := (l.filter fun x => decide (x.inn = k) && decide (x.kind.toNat = t)).length
def XF (l : List El) (k : List UInt8) : Value := .agg #[.int .i64 ((cntK 1 l k : Nat) : Int), .int .i64 ((cntK 2 l k : Nat) : Int)]
theorem kH (t : Nat) (l : List El) (k : List UInt8) : cntK t l k ≤ l.length := List.length_filter_le _ _
theorem TZ (t : Nat) (l : List El) (i : Nat) (k : List UInt8) : cntK t (l.take i) k ≤ l.length := Nat.le_trans (kH _ _ _) (by rw [List.length_take]; omega)
theorem HM (t : Nat) (l : List El) (x : El) (k : List UInt8) : cntK t (l ++ [x]) k = cntK t l k + (if x.inn = k ∧ x.kind.toNat = t then 1 else 0) := by
 unfold cntK
 rw [List.filter_append, List.length_append]
 congr 1
 by_cases h1 : x.inn = k <;> by_cases h2 : x.kind.toNat = t <;> simp [h1, h2]
section
variable {L : List (List UInt8 × Value)} {l l' : List El} {x : El} (hL : ∀ k, (CU L k).getD (.agg #[.int .i64 0, .int .i64 0]) = XF l k) (hl : l' = l ++ [x])
include hL hl
theorem V7 {a b : Nat} (ha : a = cntK 1 l' x.inn) (hb : b = cntK 2 l' x.inn) : ∀ k, (CU (DN L x.inn (.agg #[AJ (a : Int), AJ (b : Int)])) k).getD (.agg #[AJ 0, AJ 0]) = XF l' k := fun k => by
 rw [G7]
 by_cases h : k = x.inn
 ·subst h; subst ha; subst hb; rw [if_pos rfl]; rfl
 ·rw [if_neg h, hL]
  unfold XF
  rw [hl, HM, HM, if_neg (fun z => h z.1.symm), if_neg (fun z => h z.1.symm)]; rfl
theorem PS (h : (x.kind.toNat : Int) = 1) : ∀ k, (CU (DN L x.inn (.agg #[AJ ((cntK 1 l x.inn + 1 : Nat) : Int), AJ ((cntK 2 l x.inn : Nat) : Int)])) k).getD (.agg #[AJ 0, AJ 0]) = XF l' k :=
 V7 hL hl (by rw [hl, HM, if_pos ⟨rfl, by omega⟩]) (by rw [hl, HM, if_neg (fun z => by omega)]; rfl)
theorem V6 (_h1 : ¬ (x.kind.toNat : Int) = 1) (h : (x.kind.toNat : Int) = 2) : ∀ k, (CU (DN L x.inn (.agg #[AJ ((cntK 1 l x.inn : Nat) : Int), AJ ((cntK 2 l x.inn + 1 : Nat) : Int)])) k).getD (.agg #[AJ 0, AJ 0]) = XF l' k :=
 V7 hL hl (by rw [hl, HM, if_neg (fun z => by omega)]; rfl) (by rw [hl, HM, if_pos ⟨rfl, by omega⟩])
theorem SB (h1 : ¬ (x.kind.toNat : Int) = 1) (h : ¬ (x.kind.toNat : Int) = 2) : ∀ k, (CU (DN L x.inn (.agg #[AJ ((cntK 1 l x.inn : Nat) : Int), AJ ((cntK 2 l x.inn : Nat) : Int)])) k).getD (.agg #[AJ 0, AJ 0]) = XF l' k :=
 V7 hL hl (by rw [hl, HM, if_neg (fun z => by omega)]; rfl) (by rw [hl, HM, if_neg (fun z => by omega)]; rfl)
end
def IE (l : List El) : List (List UInt8) := (l.filter fun x => decide (x.kind.toNat = 10)).map (·.id)
theorem Q5 {l : List El} {x : El} (h : (x.kind.toNat : Int) = 10) : IE (l ++ [x]) = IE l ++ [x.id] := by
 unfold IE
 rw [List.filter_append, List.map_append]
 simp [show x.kind.toNat = 10 by omega]
theorem RE {l : List El} {x : El} (h : ¬ (x.kind.toNat : Int) = 10) : IE (l ++ [x]) = IE l := by
 unfold IE
 rw [List.filter_append]
 simp [show ¬ x.kind.toNat = 10 by omega]
def RZ (m : Md) (k : List UInt8) : Bool := (decide (((cntK 1 m.els k : Nat) : Int) = (1 : Int))) && (decide ((1 : Int) ≤ ((cntK 2 m.els k : Nat) : Int)))
def ffS (p : List UInt8 → Bool) (l : List (List UInt8)) : Option (List UInt8) := ffN (fun _ => p) 0 l
theorem qT (p : List UInt8 → Bool) (l : List (List UInt8)) : Value.tuple #[str ((ffN (fun _ => p) 0 l).elim [] (fun x => x)), .bool (ffN (fun _ => p) 0 l).isSome] = JZ (ffS p l) := by unfold JZ ffS; cases ffN (fun _ => p) 0 l <;> rfl
def aA (m : Md) : Option (List UInt8) := ffS (RZ m) ([] :: IE m.els)
theorem OB : (prog.info? 153).map (·.size) = some 2 := by kernel_rfl
theorem MZ : (prog.info? 152).map (·.size) = some 1 := by kernel_rfl
theorem O1 : (prog.info? 153).map (·.zero) = some (some (.agg #[AJ 0, AJ 0])) := by kernel_rfl
theorem MY : (prog.info? 152).map (·.zero) = some (some (.map none)) := by kernel_rfl
theorem jH (m : Md) (L : List (List UInt8 × Value)) (hL : ∀ k, (CU L k).getD (.agg #[AJ 0, AJ 0]) = XF m.els k) (g4 g11 : Nat) (k : List UInt8) (w : World) (hp : Blk w g4 152 [.map (some g11)]) (hm : Mp w g11 L) :
 Calls prog 91 #[str k, pg g4] w (CG w (.bool (RZ m k))) := by
 refine C5 func91 ntmps91 rfl fun M => srg (AY rfl (srg (yl rfl rfl (Blk.c (hp.fr0 M.fr) 0 rfl) (yb rfl (ya rfl (BT rfl rfl rfl underlying152 underlying9 O1 (hm.fr M.fr (fun hh => hh)) (hL _)) (ya rfl (VH (m := 0) rfl rfl rfl (ar rfl) isAgg3 BU rfl) (CN rfl rfl (yb rfl (fvm M 6 [3] [(15, .bool ((decide (((cntK 1 m.els k : Nat) : Int) = (1 : Int))) && (decide ((1 : Int) ≤ ((cntK 2 m.els k : Nat) : Int)))))] ?_ (fun k9 => ?_))))))))))
 ·intro w1 M
  exact yb rfl (gnr (gr1 rfl ⟨rfl, M.fr⟩))
 refine AO (d := 9) rfl (fun h9 => ?_) (fun h9 => ?_)
 ·exact ym rfl rfl (Blk.c (hp.fr0 M.fr) 0 rfl) (gyq rfl (yd rfl (BT rfl rfl rfl underlying152 underlying9 O1 (hm.fr M.fr (fun hh => hh)) (hL _)) (yd rfl (VH (m := 1) rfl rfl rfl (ar rfl) isAgg3 BU rfl) (yd rfl (FQ rfl rfl rfl) (yb rfl (k9 M ⟨rfl, (by rw [h9]; rfl), trivial⟩))))))
 ·iterate 5 refine yo rfl ?_
  exact yb rfl (k9 M ⟨rfl, (by rw [h9]; rfl), trivial⟩)
theorem jG (m : Md) (a : MdA) (ix : IxA) (gx : Nat) (w : World) (ho : MdOk m) (hx : IxAt w m a ix gx) :
 Calls prog 40 #[pg gx] w (CG w (JZ (aA m))) := by
 have hne := ho.nels
 refine C5 func40 ntmps40 rfl fun M => AQ rfl (AY rfl (srg (ID M (AA rfl) rfl rfl rfl fun g11 w1 hg11 M => DJ M (AA rfl) rfl rfl 152 rfl [.map none] MY rfl fun g4 w2 hg4 M => gp1 M 0 rfl rfl rfl MZ fun w3 M => AR ?_)))
 refine AD (AF (srg ?_))
 iterate 4 refine yb rfl ?_
 refine yl rfl rfl (Blk.c ((hx.fr0 M.fr).blk) 3 rfl) (ya rfl (C3 rfl rfl (sl rfl)) (AY rfl (AS (flp [17, 16, 4, 0] (fun ze e wr mz => ∃ (i : Nat) (L : List (List UInt8 × Value)), e = (18, AJ ((i : Nat) : Int)) :: ze ∧ Mem w B0 [As.blk g4 152 [.map (some g11)], As.mp g11 L] wr ∧ (i ≤ m.els.length) ∧ (∀ k, (CU L k).getD (.agg #[AJ 0, AJ 0]) = XF (m.els.take i) k) ∧ mz = m.els.length - i) ⟨0, [], rfl, M, Nat.zero_le _, fun _ => rfl, rfl⟩ ?_))))
 rintro _ w4 _ ⟨i, L, rfl, M, hi, hL, rfl⟩
 refine srg (CF rfl rfl (nq (AF (AL rfl (fun h19 => ?_) (fun h19 => ?_)))))
 ·have h19p := (odt h19)
  refine AI (AD (AF (AS (srg ?_))))
  obtain ⟨u, hu⟩ := CC (l := m.els) (i := i) AM
  obtain ⟨b_u, o_u, hA_u⟩ := BI (k := 11) AM (M.rd hx.md.els) hu
  refine ya rfl (B1 i hA_u rfl rfl rfl (sl rfl) AM) (ya rfl (AU rfl rfl (BV El.len (M.rd hx.md.els) hA_u hu) underlying69 rfl B2) (DC M rfl B6 fun g6 w5 hg6 M => C4 M 0 rfl rfl B2 rfl fun w6 M => N2 (BC M 1 rfl rfl rfl (yb rfl (BC M 0 rfl rfl rfl (ya rfl (BT rfl rfl rfl underlying152 underlying9 O1 (M.mp 2 rfl) (hL _)) (DC M rfl O1 fun g7 w7 hg7 M => ?_)))))))
  refine C4 M 0 rfl rfl OB rfl fun w8 M => nq (AF (AQ rfl (BC M 1 rfl rfl rfl (nq (AS (srg (CN rfl rfl (yb rfl ?_))))))))
  refine nq (AL rfl (fun h28 => ?_) (fun h28 => ?_))
  ·have h28p := (odt h28)
   have hc1 := TZ 1 m.els i u.inn
   refine AK (ya rfl (FG rfl rfl rfl (ar rfl) AM) (BC M 0 rfl rfl rfl (ya rfl (BO rfl rfl rfl AM) (ya rfl (FG rfl rfl rfl (ar rfl) AM) (gp1 M 0 rfl rfl rfl GQ fun w9 M => AR (AE (AD (AK (BC M 2 rfl rfl rfl (yb rfl (BC M 1 rfl rfl rfl (CW M 0 rfl rfl underlying153 OB rfl (FZ M 3 (AA rfl) rfl rfl rfl rfl rfl underlying152 underlying9 rfl ?_)))))))))))))
   intro w10 M
   refine AR (AE (AD (AK (ya rfl (BO rfl rfl rfl AM) (yb rfl (AR (fag ⟨i + 1, DN L u.inn (.agg #[AJ (((cntK 1 (m.els.take i) u.inn) + 1 : Nat) : Int), AJ ((cntK 2 (m.els.take i) u.inn : Nat) : Int)]), rfl, (M.pk [2, 3]), ?_, ?_, rfl⟩)))))))
   ·omega
   ·first
     | exact PS hL (B4 hu) h28p
     | exact V6 hL (B4 hu) h28p h34p
     | exact SB hL (B4 hu) h28p h34p
  ·have h28p := (odf h28)
   refine srg (CN rfl rfl (AY rfl (AL rfl (fun h34 => ?_) (fun h34 => ?_))))
   ·have h34p := (odt h34)
    have hc2 := TZ 2 m.els i u.inn
    refine AK (ya rfl (FG rfl rfl rfl (ar rfl) AM) (BC M 0 rfl rfl rfl (ya rfl (BO rfl rfl rfl AM) (ya rfl (FG rfl rfl rfl (ar rfl) AM) (gp1 M 0 rfl rfl rfl GQ fun w11 M => AR (AE (AD (AK (BC M 2 rfl rfl rfl (yb rfl (BC M 1 rfl rfl rfl (CW M 0 rfl rfl underlying153 OB rfl (FZ M 3 (AA rfl) rfl rfl rfl rfl rfl underlying152 underlying9 rfl ?_)))))))))))))
    intro w12 M
    refine AR (AE (AD (AK (ya rfl (BO rfl rfl rfl AM) (yb rfl (AR (fag ⟨i + 1, DN L u.inn (.agg #[AJ ((cntK 1 (m.els.take i) u.inn : Nat) : Int), AJ (((cntK 2 (m.els.take i) u.inn) + 1 : Nat) : Int)]), rfl, (M.pk [2, 3]), ?_, ?_, rfl⟩)))))))
    ·omega
    ·first
      | exact PS hL (B4 hu) h28p
      | exact V6 hL (B4 hu) h28p h34p
      | exact SB hL (B4 hu) h28p h34p
   ·have h34p := (odf h34)
    refine AI (AE (AD (AK (BC M 2 rfl rfl rfl (yb rfl (BC M 1 rfl rfl rfl (CW M 0 rfl rfl underlying153 OB rfl (FZ M 3 (AA rfl) rfl rfl rfl rfl rfl underlying152 underlying9 rfl fun w13 M => AR (AE (AD (AK (ya rfl (BO rfl rfl rfl AM) (yb rfl ?_)))))))))))))
    refine AR (fag ⟨i + 1, DN L u.inn (.agg #[AJ ((cntK 1 (m.els.take i) u.inn : Nat) : Int), AJ ((cntK 2 (m.els.take i) u.inn : Nat) : Int)]), rfl, (M.pk [2, 3]), ?_, ?_, rfl⟩)
    ·omega
    ·first
      | exact PS hL (B4 hu) h28p
      | exact V6 hL (B4 hu) h28p h34p
      | exact SB hL (B4 hu) h28p h34p
 ·have h19p := (odf h19)
  refine BF (AG (AG ?_))
  have hiE : i = m.els.length := by omega
  rw [hiE, List.take_length] at hL
  refine AV (AD (srg (DF M (AA rfl) rfl rfl [str []] ([str []]) rfl rfl rfl rfl underlying36 D1 rfl rfl (HE rfl) rfl fun g45 w14 hg45 M => AY rfl (AF (srg ?_)))))
  iterate 4 refine yb rfl ?_
  refine yl rfl rfl (Blk.c ((hx.fr0 M.fr).blk) 3 rfl) (ya rfl (C3 rfl rfl (sl rfl)) (AY rfl (AS ?_)))
  have M := M.blkOwn 0 (size := 1) (n := 1) rfl rfl (by unfold maxLen; omega)
  refine flp [51, 50, 4] (fun ze e wr mz => ∃ (j : Nat) (acc : List (List UInt8)) (A : Option Addr) (c : Nat), e = (8, .slice A acc.length c) :: (52, AJ ((j : Nat) : Int)) :: ze ∧ Mem w B0 [As.own w.heap.size 9 1 (.slice A acc.length c) acc.length (AH BY acc), As.blk g4 152 [.map (some g11)], As.mp g11 L] wr ∧ (j ≤ m.els.length) ∧ (acc = [] :: IE (m.els.take j)) ∧ (acc.length ≤ j + 1) ∧ mz = m.els.length - j) ⟨0, [[]], some ⟨g45, 0, none⟩, 1, rfl, M, Nat.zero_le _, rfl, Nat.le_refl _, rfl⟩ ?_
  rintro _ w15 _ ⟨j, acc, A, c, rfl, M, hj, hacc, hal, rfl⟩
  refine srg (CF rfl rfl (nq (AF (AL rfl (fun h53 => ?_) (fun h53 => ?_)))))
  ·have h53p := (odt h53)
   refine AI (AD (AF (AS (srg ?_))))
   obtain ⟨v, hv⟩ := CC (l := m.els) (i := j) AM
   obtain ⟨b_v, o_v, hA_v⟩ := BI (k := 11) AM (M.rd hx.md.els) hv
   refine ya rfl (B1 j hA_v rfl rfl rfl (sl rfl) AM) (ya rfl (AU rfl rfl (BV El.len (M.rd hx.md.els) hA_v hv) underlying69 rfl B2) (DC M rfl B6 fun g10 w16 hg10 M => C4 M 0 rfl rfl B2 rfl fun w17 M => nq (AQ rfl (BC M 0 rfl rfl rfl (CN rfl rfl (nq (AL rfl (fun h58 => ?_) (fun h58 => ?_))))))))
   ·have h58p := (odt h58)
    refine AK (BM rfl rfl (BC M 0 rfl rfl rfl (DF M (AA rfl) rfl rfl [str v.id] ([str v.id]) rfl rfl rfl rfl underlying36 D1 rfl rfl (HE rfl) rfl fun g62 w18 hg62 M => EH (len' := (acc ++ [v.id]).length) (xs' := AH BY (acc ++ [v.id])) M 2 (AA rfl) rfl rfl rfl rfl rfl rfl (M.rdBlk 0 rfl rfl) underlying36 DG rfl BU (BP rfl) (Nat.le_refl _) (Nat.le_refl _) CX (by unfold maxLen; first | omega | (simp only [List.length_append, List.length_cons, List.length_nil]; omega)) (by simp) (by simp [AH, BY]) fun A63 c63 w19 M => yb rfl (AR (AE (AD (AK (ya rfl (BO rfl rfl rfl AM) (yb rfl (AR ?_))))))))))
    refine fag ⟨j + 1, acc ++ [v.id], A63, c63, rfl, (M.pk [2, 3, 4]), ?_, ?_, ?_, rfl⟩
    ·omega
    ·first
      | (rw [hacc, B4 hv, Q5 h58p]; rfl)
      | (rw [hacc, B4 hv, RE h58p])
    ·first | omega | (simp only [List.length_append, List.length_cons, List.length_nil]; omega)
   ·have h58p := (odf h58)
    refine AI (AE (AD (AK (ya rfl (BO rfl rfl rfl AM) (yb rfl (AR (fag ⟨j + 1, acc, A, c, rfl, (M.pk [1, 2, 3]), ?_, ?_, ?_, rfl⟩)))))))
    ·omega
    ·first
      | (rw [hacc, B4 hv, Q5 h58p]; rfl)
      | (rw [hacc, B4 hv, RE h58p])
    ·first | omega | (simp only [List.length_append, List.length_cons, List.length_nil]; omega)
  ·have h53p := (odf h53)
   refine BF (AG (AG ?_))
   have hjE : j = m.els.length := by omega
   rw [hjE, List.take_length] at hacc
   refine AV (AD (AQ rfl (ya rfl (DE (us := []) (vs := [pg g4]) rfl rfl rfl) (D4 M 67 rfl rfl call89 (YM _ _ acc (by have := ho.nels; omega) 91 [pg g4] (RZ m) _ (GN call91 (fun z _ w9 hf9 => jH m L hL g4 g11 z w9 ((M.blk 1 rfl).fr0 hf9) ((M.mp 2 rfl).fr hf9 (fun hh => hh)))) (M.rdOwn 0 rfl)) fun w20 M => ?_))))
   iterate 4 refine yb rfl ?_
   exact gnr (CI rfl rfl rfl ⟨by rw [aA, ← hacc]; exact congrArg Ending.returned (qT _ _), M.fr⟩)
end
end Go.Proofs.YtjaocmocdhckaaaGreatDoor
