/- Lemmas that the last text rests on. Condition: each says its own. -/
import Derived.Test.YtaheakjfkpkefaaGreatDoorYRu4
set_option maxHeartbeats 16000000
set_option maxRecDepth 100000
namespace Go.Proofs.YtaheakjfkpkefaaGreatDoor
open Go.RowKit
open Tryz
section
variable {P : Program} {e : Env} {w : World} {o : Oper}
theorem VK {t el n sz : Nat} (m : Nat) {x i : Operand} {cs : Array Value} {u : Value} (ho : o.op = .index t x i) (hx : ev e x = some (.agg cs)) (hi : ev e i = some (AA (m : Int))) (ht : M7 P t = some (n, el, sz)) (hA : ∀ w, (isAgg el).run P w = .ok false w) (hm : m < n) (hu : cs[m * sz]? = some u) : Y P e o w u := fun ρ h => by
 unfold M7 at ht
 split at ht
 ·rename_i el' n' hu'
  split at ht
  ·rename_i i' hi'
   simp only [Option.some.injEq, Prod.mk.injEq] at ht
   obtain ⟨rfl, rfl, rfl⟩ := ht
   have h1 : 0 ≤ (m : Int) := by omega
   unfold execOp
   simp [ho, h _ _ hx, h _ _ hi, Instr.index, asIntOf, run_underlying hu', h1, hm, sizeOf, typeInfo, hi', part, hA, hu]
  ·cases ht
 ·cases ht
end
theorem YR (A : Option Addr) (c : Nat) (l : List (List UInt8)) (hl : l.length ≤ 4611686018427387904) (f : FuncId) (cs : List Value) (p : List UInt8 → Bool) (w : World) (hP : PredJ prog f cs str l (fun _ => p) AM (fun _ _ => True) w) (hR : Rd w A (l.length * 1) (AB BK l)) :
 Calls prog 122 #[.slice A l.length c, .func (.func 123) #[] #[], .func (.func f) #[] cs.toArray] w (BN w (.tuple #[str ((ffN (fun _ => p) 0 l).elim [] (fun x => x)), .bool (ffN (fun _ => p) 0 l).isSome])) :=
 (dT A c l hl f cs (fun _ => p) AM (fun _ _ => True) w hP (fun _ hf => hR.fr0 hf) trivial).mono fun _ _ ⟨h1, _, h2⟩ => ⟨h1, h2⟩
def cntK (t : Nat) (l : List El) (k : List UInt8) : Nat := (l.filter fun x => decide (x.inn = k) && decide (x.kind.toNat = t)).length
def XE (l : List El) (k : List UInt8) : Value := .agg #[.int .i64 ((cntK 1 l k : Nat) : Int), .int .i64 ((cntK 2 l k : Nat) : Int)]
theorem lB (t : Nat) (l : List El) (k : List UInt8) : cntK t l k ≤ l.length := List.length_filter_le _ _
theorem TU (t : Nat) (l : List El) (i : Nat) (k : List UInt8) : cntK t (l.take i) k ≤ l.length := Nat.le_trans (lB _ _ _) (by rw [List.length_take]; omega)
theorem GI (t : Nat) (l : List El) (x : El) (k : List UInt8) : cntK t (l ++ [x]) k = cntK t l k + (if x.inn = k ∧ x.kind.toNat = t then 1 else 0) := by
 unfold cntK
 rw [List.filter_append, List.length_append]
 congr 1
 by_cases h1 : x.inn = k <;> by_cases h2 : x.kind.toNat = t <;> simp [h1, h2]
section
variable {L : List (List UInt8 × Value)} {l l' : List El} {x : El} (hL : ∀ k, (BP L k).getD (.agg #[.int .i64 0, .int .i64 0]) = XE l k) (hl : l' = l ++ [x])
include hL hl
theorem VA {a b : Nat} (ha : a = cntK 1 l' x.inn) (hb : b = cntK 2 l' x.inn) : ∀ k, (BP (CK L x.inn (.agg #[AA (a : Int), AA (b : Int)])) k).getD (.agg #[AA 0, AA 0]) = XE l' k := fun k => by
 rw [E8]
 by_cases h : k = x.inn
 ·subst h; subst ha; subst hb; rw [if_pos rfl]; rfl
 ·rw [if_neg h, hL]
  unfold XE
  rw [hl, GI, GI, if_neg (fun z => h z.1.symm), if_neg (fun z => h z.1.symm)]; rfl
theorem P8 (h : (x.kind.toNat : Int) = 1) : ∀ k, (BP (CK L x.inn (.agg #[AA ((cntK 1 l x.inn + 1 : Nat) : Int), AA ((cntK 2 l x.inn : Nat) : Int)])) k).getD (.agg #[AA 0, AA 0]) = XE l' k :=
 VA hL hl (by rw [hl, GI, if_pos ⟨rfl, by omega⟩]) (by rw [hl, GI, if_neg (fun z => by omega)]; rfl)
theorem V9 (_h1 : ¬ (x.kind.toNat : Int) = 1) (h : (x.kind.toNat : Int) = 2) : ∀ k, (BP (CK L x.inn (.agg #[AA ((cntK 1 l x.inn : Nat) : Int), AA ((cntK 2 l x.inn + 1 : Nat) : Int)])) k).getD (.agg #[AA 0, AA 0]) = XE l' k :=
 VA hL hl (by rw [hl, GI, if_neg (fun z => by omega)]; rfl) (by rw [hl, GI, if_pos ⟨rfl, by omega⟩])
theorem S5 (h1 : ¬ (x.kind.toNat : Int) = 1) (h : ¬ (x.kind.toNat : Int) = 2) : ∀ k, (BP (CK L x.inn (.agg #[AA ((cntK 1 l x.inn : Nat) : Int), AA ((cntK 2 l x.inn : Nat) : Int)])) k).getD (.agg #[AA 0, AA 0]) = XE l' k :=
 VA hL hl (by rw [hl, GI, if_neg (fun z => by omega)]; rfl) (by rw [hl, GI, if_neg (fun z => by omega)]; rfl)
end
def HM (l : List El) : List (List UInt8) := (l.filter fun x => decide (x.kind.toNat = 10)).map (·.id)
theorem PO {l : List El} {x : El} (h : (x.kind.toNat : Int) = 10) : HM (l ++ [x]) = HM l ++ [x.id] := by
 unfold HM
 rw [List.filter_append, List.map_append]
 simp [show x.kind.toNat = 10 by omega]
theorem R4 {l : List El} {x : El} (h : ¬ (x.kind.toNat : Int) = 10) : HM (l ++ [x]) = HM l := by
 unfold HM
 rw [List.filter_append]
 simp [show ¬ x.kind.toNat = 10 by omega]
def RV (m : Md) (k : List UInt8) : Bool := (decide (((cntK 1 m.els k : Nat) : Int) = (1 : Int))) && (decide ((1 : Int) ≤ ((cntK 2 m.els k : Nat) : Int)))
def ffS (p : List UInt8 → Bool) (l : List (List UInt8)) : Option (List UInt8) := ffN (fun _ => p) 0 l
theorem rT (p : List UInt8 → Bool) (l : List (List UInt8)) : Value.tuple #[str ((ffN (fun _ => p) 0 l).elim [] (fun x => x)), .bool (ffN (fun _ => p) 0 l).isSome] = J9 (ffS p l) := by unfold J9 ffS; cases ffN (fun _ => p) 0 l <;> rfl
def aJ (m : Md) : Option (List UInt8) := ffS (RV m) ([] :: HM m.els)
theorem NL : (prog.info? 210).map (·.size) = some 2 := by kernel_rfl
theorem M9 : (prog.info? 209).map (·.size) = some 1 := by kernel_rfl
theorem NB : (prog.info? 210).map (·.zero) = some (some (.agg #[AA 0, AA 0])) := by kernel_rfl
theorem M8 : (prog.info? 209).map (·.zero) = some (some (.map none)) := by kernel_rfl
theorem kL (m : Md) (L : List (List UInt8 × Value)) (hL : ∀ k, (BP L k).getD (.agg #[AA 0, AA 0]) = XE m.els k) (g4 g11 : Nat) (k : List UInt8) (w : World) (hp : Blk w g4 209 [.map (some g11)]) (hm : Mp w g11 L) :
 Calls prog 124 #[str k, pg g4] w (BN w (.bool (RV m k))) := by
 refine BL func124 ntmps124 rfl fun M => srg (AG rfl (srg (yl rfl rfl (Blk.c (hp.fr0 M.fr) 0 rfl) (yb rfl (ya rfl (BD rfl rfl rfl underlying209 underlying9 NB (hm.fr M.fr (fun hh => hh)) (hL _)) (ya rfl (VK (m := 0) rfl rfl rfl (ar rfl) isAgg3 AU rfl) (C7 rfl rfl (yb rfl (fvm M 6 [3] [(15, .bool ((decide (((cntK 1 m.els k : Nat) : Int) = 1)) && (decide (1 ≤ ((cntK 2 m.els k : Nat) : Int)))))] ?_ (fun k9 => ?_))))))))))
 ·intro w1 M
  exact yb rfl (gnr (gr1 rfl ⟨rfl, M.fr⟩))
 refine AD (d := 9) rfl (fun h9 => ?_) (fun h9 => ?_)
 ·exact ym rfl rfl (Blk.c (hp.fr0 M.fr) 0 rfl) (gyq rfl (yd rfl (BD rfl rfl rfl underlying209 underlying9 NB (hm.fr M.fr (fun hh => hh)) (hL _)) (yd rfl (VK (m := 1) rfl rfl rfl (ar rfl) isAgg3 AU rfl) (yd rfl (GK rfl rfl rfl) (yb rfl (k9 M ⟨rfl, (by rw [h9]; rfl), trivial⟩))))))
 ·iterate 5 refine yo rfl ?_
  exact yb rfl (k9 M ⟨rfl, (by rw [h9]; rfl), trivial⟩)
theorem kK (m : Md) (a : MdA) (ix : IxA) (gx : Nat) (w : World) (ho : MdOk m) (hx : IxAt w m a ix gx) :
 Calls prog 70 #[pg gx] w (BN w (J9 (aJ m))) := by
 have hne := ho.nels
 refine BL func70 ntmps70 rfl fun M => AC rfl (AG rfl (srg (HL M (wn_none rfl) rfl rfl rfl fun g11 w1 hg11 M => E4 M (wn_none rfl) rfl rfl 209 rfl [.map none] M8 rfl fun g4 w2 hg4 M => gp1 M 0 rfl rfl rfl M9 fun w3 M => sxl_nil ?_)))
 refine qx_seq (sx_seq (srg ?_))
 iterate 4 refine yb rfl ?_
 refine yl rfl rfl (Blk.c ((hx.fr0 M.fr).blk) 3 rfl) (DP rfl rfl (AG rfl (sx_block (flp [17, 16, 4, 0] (fun ze e wr mz => ∃ (i : Nat) (L : List (List UInt8 × Value)), e = (18, AA (i : Int)) :: ze ∧ Mem w AM [As.blk g4 209 [.map (some g11)], As.mp g11 L] wr ∧ (i ≤ m.els.length) ∧ (∀ k, (BP L k).getD (.agg #[AA 0, AA 0]) = XE (m.els.take i) k) ∧ mz = m.els.length - i) ⟨0, [], rfl, M, Nat.zero_le _, fun _ => rfl, rfl⟩ ?_))))
 rintro _ w4 _ ⟨i, L, rfl, M, hi, hL, rfl⟩
 refine srg (BM rfl rfl (nq (sx_seq (AF rfl (fun h19 => ?_) (fun h19 => ?_)))))
 ·have h19p := (odt h19)
  refine sx_skip (qx_seq (sx_seq (sx_block (srg ?_))))
  obtain ⟨u, hu⟩ := BZ (l := m.els) (i := i) A0
  obtain ⟨b_u, o_u, hA_u⟩ := B7 (k := 11) A0 (M.rd hx.md.els) hu
  refine ya rfl (AP i hA_u rfl rfl rfl (sl rfl) A0) (ya rfl (AH rfl rfl (BB El.len (M.rd hx.md.els) hA_u hu) underlying95 rfl AK) (CO M rfl AQ fun g6 w5 hg6 M => C2 M 0 rfl rfl AK rfl fun w6 M => EF (B2 M 1 rfl rfl rfl (yb rfl (B2 M 0 rfl rfl rfl (ya rfl (BD rfl rfl rfl underlying209 underlying9 NB (M.mp 2 rfl) (hL _)) (CO M rfl NB fun g7 w7 hg7 M => ?_)))))))
  refine C2 M 0 rfl rfl NL rfl fun w8 M => nq (sx_seq (AC rfl (B2 M 1 rfl rfl rfl (nq (sx_block (srg (C7 rfl rfl (yb rfl ?_))))))))
  refine nq (AF rfl (fun h28 => ?_) (fun h28 => ?_))
  ·have h28p := (odt h28)
   have hc1 := TU 1 m.els i u.inn
   refine sx_region (ya rfl (EA rfl rfl rfl (ar rfl) A0) (B2 M 0 rfl rfl rfl (C1 rfl rfl (ya rfl (EA rfl rfl rfl (ar rfl) A0) (gp1 M 0 rfl rfl rfl FW fun w9 M => sxl_nil (qx_block_normal (qx_seq (sx_region (B2 M 2 rfl rfl rfl (yb rfl (B2 M 1 rfl rfl rfl (DO M 0 rfl rfl underlying210 NL rfl (ES M 3 (wn_none rfl) rfl rfl rfl rfl rfl underlying209 underlying9 rfl ?_)))))))))))))
   intro w10 M
   refine sxl_nil (qx_block_normal (qx_seq (sx_region (C1 rfl rfl (yb rfl (sxl_nil (fag ⟨i + 1, CK L u.inn (.agg #[AA (((cntK 1 (m.els.take i) u.inn) + 1 : Nat) : Int), AA ((cntK 2 (m.els.take i) u.inn : Nat) : Int)]), rfl, (M.pk [2, 3]), ?_, ?_, rfl⟩)))))))
   ·omega
   ·first
     | exact P8 hL (AJ hu) h28p
     | exact V9 hL (AJ hu) h28p h34p
     | exact S5 hL (AJ hu) h28p h34p
  ·have h28p := (odf h28)
   refine srg (C7 rfl rfl (AG rfl (AF rfl (fun h34 => ?_) (fun h34 => ?_))))
   ·have h34p := (odt h34)
    have hc2 := TU 2 m.els i u.inn
    refine sx_region (ya rfl (EA rfl rfl rfl (ar rfl) A0) (B2 M 0 rfl rfl rfl (C1 rfl rfl (ya rfl (EA rfl rfl rfl (ar rfl) A0) (gp1 M 0 rfl rfl rfl FW fun w11 M => sxl_nil (qx_block_normal (qx_seq (sx_region (B2 M 2 rfl rfl rfl (yb rfl (B2 M 1 rfl rfl rfl (DO M 0 rfl rfl underlying210 NL rfl (ES M 3 (wn_none rfl) rfl rfl rfl rfl rfl underlying209 underlying9 rfl ?_)))))))))))))
    intro w12 M
    refine sxl_nil (qx_block_normal (qx_seq (sx_region (C1 rfl rfl (yb rfl (sxl_nil (fag ⟨i + 1, CK L u.inn (.agg #[AA ((cntK 1 (m.els.take i) u.inn : Nat) : Int), AA (((cntK 2 (m.els.take i) u.inn) + 1 : Nat) : Int)]), rfl, (M.pk [2, 3]), ?_, ?_, rfl⟩)))))))
    ·omega
    ·first
      | exact P8 hL (AJ hu) h28p
      | exact V9 hL (AJ hu) h28p h34p
      | exact S5 hL (AJ hu) h28p h34p
   ·have h34p := (odf h34)
    refine sx_skip (qx_block_normal (qx_seq (sx_region (B2 M 2 rfl rfl rfl (yb rfl (B2 M 1 rfl rfl rfl (DO M 0 rfl rfl underlying210 NL rfl (ES M 3 (wn_none rfl) rfl rfl rfl rfl rfl underlying209 underlying9 rfl fun w13 M => sxl_nil (qx_block_normal (qx_seq (sx_region (C1 rfl rfl (yb rfl ?_)))))))))))))
    refine sxl_nil (fag ⟨i + 1, CK L u.inn (.agg #[AA ((cntK 1 (m.els.take i) u.inn : Nat) : Int), AA ((cntK 2 (m.els.take i) u.inn : Nat) : Int)]), rfl, (M.pk [2, 3]), ?_, ?_, rfl⟩)
    ·omega
    ·first
      | exact P8 hL (AJ hu) h28p
      | exact V9 hL (AJ hu) h28p h34p
      | exact S5 hL (AJ hu) h28p h34p
 ·have h19p := (odf h19)
  refine sx_exit (qx_then_exit (qx_then_exit ?_))
  have hiE : i = m.els.length := by omega
  rw [hiE, List.take_length] at hL
  refine qx_block_hit (qx_seq (srg (CU M (wn_none rfl) rfl rfl [str []] ([str []]) rfl rfl rfl rfl underlying48 CP rfl rfl (EZ rfl) rfl fun g45 w14 hg45 M => AG rfl (sx_seq (srg ?_)))))
  iterate 4 refine yb rfl ?_
  refine yl rfl rfl (Blk.c ((hx.fr0 M.fr).blk) 3 rfl) (DP rfl rfl (AG rfl (sx_block ?_)))
  have M := M.blkOwn 0 (size := 1) (n := 1) rfl rfl (by unfold maxLen; omega)
  refine flp [51, 50, 4] (fun ze e wr mz => ∃ (j : Nat) (acc : List (List UInt8)) (A : Option Addr) (c : Nat), e = (8, .slice A acc.length c) :: (52, AA (j : Int)) :: ze ∧ Mem w AM [As.own w.heap.size 9 1 (.slice A acc.length c) acc.length (AB BK acc), As.blk g4 209 [.map (some g11)], As.mp g11 L] wr ∧ (j ≤ m.els.length) ∧ (acc = [] :: HM (m.els.take j)) ∧ (acc.length ≤ j + 1) ∧ mz = m.els.length - j) ⟨0, [[]], some ⟨g45, 0, none⟩, 1, rfl, M, Nat.zero_le _, rfl, Nat.le_refl _, rfl⟩ ?_
  rintro _ w15 _ ⟨j, acc, A, c, rfl, M, hj, hacc, hal, rfl⟩
  refine srg (BM rfl rfl (nq (sx_seq (AF rfl (fun h53 => ?_) (fun h53 => ?_)))))
  ·have h53p := (odt h53)
   refine sx_skip (qx_seq (sx_seq (sx_block (srg ?_))))
   obtain ⟨v, hv⟩ := BZ (l := m.els) (i := j) A0
   obtain ⟨b_v, o_v, hA_v⟩ := B7 (k := 11) A0 (M.rd hx.md.els) hv
   refine ya rfl (AP j hA_v rfl rfl rfl (sl rfl) A0) (ya rfl (AH rfl rfl (BB El.len (M.rd hx.md.els) hA_v hv) underlying95 rfl AK) (CO M rfl AQ fun g10 w16 hg10 M => C2 M 0 rfl rfl AK rfl fun w17 M => nq (AC rfl (B2 M 0 rfl rfl rfl (C7 rfl rfl (nq (AF rfl (fun h58 => ?_) (fun h58 => ?_))))))))
   ·have h58p := (odt h58)
    refine sx_region (AV rfl rfl (B2 M 0 rfl rfl rfl (CU M (wn_none rfl) rfl rfl [str v.id] ([str v.id]) rfl rfl rfl rfl underlying48 CP rfl rfl (EZ rfl) rfl fun g62 w18 hg62 M => DC (len' := (acc ++ [v.id]).length) (xs' := AB BK (acc ++ [v.id])) M 2 (wn_none rfl) rfl rfl rfl rfl rfl rfl (M.rdBlk 0 rfl rfl) underlying48 CI rfl AU (BG rfl) (Nat.le_refl _) (Nat.le_refl _) CX (by unfold maxLen; first | omega | (simp only [List.length_append, List.length_cons, List.length_nil]; omega)) (by simp) (by simp [AB, BK]) fun A63 c63 w19 M => yb rfl (sxl_nil (qx_block_normal (qx_seq (sx_region (C1 rfl rfl (yb rfl (sxl_nil ?_))))))))))
    refine fag ⟨j + 1, acc ++ [v.id], A63, c63, rfl, (M.pk [2, 3, 4]), ?_, ?_, ?_, rfl⟩
    ·omega
    ·first
      | (rw [hacc, AJ hv, PO h58p]; rfl)
      | (rw [hacc, AJ hv, R4 h58p])
    ·first | omega | (simp only [List.length_append, List.length_cons, List.length_nil]; omega)
   ·have h58p := (odf h58)
    refine sx_skip (qx_block_normal (qx_seq (sx_region (C1 rfl rfl (yb rfl (sxl_nil (fag ⟨j + 1, acc, A, c, rfl, (M.pk [1, 2, 3]), ?_, ?_, ?_, rfl⟩)))))))
    ·omega
    ·first
      | (rw [hacc, AJ hv, PO h58p]; rfl)
      | (rw [hacc, AJ hv, R4 h58p])
    ·first | omega | (simp only [List.length_append, List.length_cons, List.length_nil]; omega)
  ·have h53p := (odf h53)
   refine sx_exit (qx_then_exit (qx_then_exit ?_))
   have hjE : j = m.els.length := by omega
   rw [hjE, List.take_length] at hacc
   refine qx_block_hit (qx_seq (AC rfl (ya rfl (CE (us := []) (vs := [pg g4]) rfl rfl rfl) (DV M 67 rfl rfl call122 (YR _ _ acc (by have := ho.nels; omega) 124 [pg g4] (RV m) _ (G3 call124 (fun z _ w9 hf9 => kL m L hL g4 g11 z w9 ((M.blk 1 rfl).fr0 hf9) ((M.mp 2 rfl).fr hf9 (fun hh => hh)))) (M.rdOwn 0 rfl)) fun w20 M => ?_))))
   iterate 4 refine yb rfl ?_
   exact gnr (BS rfl rfl rfl ⟨by rw [aJ, ← hacc]; exact congrArg Ending.returned (rT _ _), M.fr⟩)
end Go.Proofs.YtaheakjfkpkefaaGreatDoor
