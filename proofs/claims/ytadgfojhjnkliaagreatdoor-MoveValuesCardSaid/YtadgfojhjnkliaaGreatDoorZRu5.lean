/- Lemmas that the last text rests on. Condition: each says its own. -/
import Derived.Test.YtadgfojhjnkliaaGreatDoorZRu4
set_option maxHeartbeats 16000000
set_option maxRecDepth 100000
namespace Go.Proofs.YtadgfojhjnkliaaGreatDoor
open Go.RowKit
open Tryz
section
variable {P : Program} {e : Env} {w : World} {o : Oper}
theorem V7 {t el n sz : Nat} (m : Nat) {x i : Operand} {cs : Array Value} {u : Value} (ho : o.op = .index t x i) (hx : ev e x = some (.agg cs)) (hi : ev e i = some (.int .i64 (m : Int))) (ht : EI P t = some (n, el, sz)) (hA : ∀ w, (isAgg el).run P w = .ok false w) (hm : m < n) (hu : cs[m * sz]? = some u) : Y P e o w u := fun ρ h => by
 unfold EI at ht
 split at ht
 ·rename_i el' n' hu'
  split at ht
  ·rename_i i' hi'
   simp only [Option.some.injEq, Prod.mk.injEq] at ht
   obtain ⟨rfl, rfl, rfl⟩ := ht
   have h1 : 0 ≤ (m : Int) := by omega
   unfold execOp
   simp [ho, h _ _ hx, h _ _ hi, Instr.index, asIntOf, run_underlying hu', h1, hm, sizeOf, typeInfo, hi', part, hA, hu]
  ·cases ht
 ·cases ht
end
theorem YR (A : Option Addr) (c : Nat) (l : List (List UInt8)) (hl : l.length ≤ 4611686018427387904) (f : FuncId) (cs : List Value) (p : List UInt8 → Bool) (w : World) (hP : PredJ prog f cs str l (fun _ => p) AB (fun _ _ => True) w) (hR : Rd w A (l.length * 1) (AR C4 l)) :
 Calls prog 86 #[.slice A l.length c, .func (.func 87) #[] #[], .func (.func f) #[] cs.toArray] w fun e w' => e = .returned (.tuple #[str ((ffN (fun _ => p) 0 l).elim [] (fun x => x)), .bool (ffN (fun _ => p) 0 l).isSome]) ∧ Fr0 w w' :=
 (eH A c l hl f cs (fun _ => p) AB (fun _ _ => True) w hP (fun _ hf => hR.fr0 hf) trivial).mono fun _ _ ⟨h1, _, h2⟩ => ⟨h1, h2⟩
def cntK (t : Nat) (l : List El) (k : List UInt8) : Nat := (l.filter fun x => decide (x.inn = k) && decide (x.kind.toNat = t)).length
def X3 (l : List El) (k : List UInt8) : Value := .agg #[.int .i64 ((cntK 1 l k : Nat) : Int), .int .i64 ((cntK 2 l k : Nat) : Int)]
theorem kX (t : Nat) (l : List El) (k : List UInt8) : cntK t l k ≤ l.length := List.length_filter_le _ _
theorem TJ (t : Nat) (l : List El) (i : Nat) (k : List UInt8) : cntK t (l.take i) k ≤ l.length := Nat.le_trans (kX _ _ _) (by rw [List.length_take]; omega)
theorem FQ (t : Nat) (l : List El) (x : El) (k : List UInt8) : cntK t (l ++ [x]) k = cntK t l k + (if x.inn = k ∧ x.kind.toNat = t then 1 else 0) := by
 unfold cntK
 rw [List.filter_append, List.length_append]
 congr 1
 by_cases h1 : x.inn = k <;> by_cases h2 : x.kind.toNat = t <;> simp [h1, h2]
section
variable {L : List (List UInt8 × Value)} {l l' : List El} {x : El} (hL : ∀ k, (CE L k).getD (.agg #[.int .i64 0, .int .i64 0]) = X3 l k) (hl : l' = l ++ [x])
include hL hl
theorem UW {a b : Nat} (ha : a = cntK 1 l' x.inn) (hb : b = cntK 2 l' x.inn) : ∀ k, (CE (CV L x.inn (.agg #[.int .i64 (a : Int), .int .i64 (b : Int)])) k).getD (.agg #[.int .i64 0, .int .i64 0]) = X3 l' k := fun k => by
 rw [FM]
 by_cases h : k = x.inn
 ·subst h; subst ha; subst hb; rw [if_pos rfl]; rfl
 ·rw [if_neg h, hL]
  unfold X3
  rw [hl, FQ, FQ, if_neg (fun z => h z.1.symm), if_neg (fun z => h z.1.symm)]; rfl
theorem O2 (h : (x.kind.toNat : Int) = 1) : ∀ k, (CE (CV L x.inn (.agg #[.int .i64 ((cntK 1 l x.inn + 1 : Nat) : Int), .int .i64 ((cntK 2 l x.inn : Nat) : Int)])) k).getD (.agg #[.int .i64 0, .int .i64 0]) = X3 l' k :=
 UW hL hl (by rw [hl, FQ, if_pos ⟨rfl, by omega⟩]) (by rw [hl, FQ, if_neg (fun z => by omega)]; rfl)
theorem UV (_h1 : ¬ (x.kind.toNat : Int) = 1) (h : (x.kind.toNat : Int) = 2) : ∀ k, (CE (CV L x.inn (.agg #[.int .i64 ((cntK 1 l x.inn : Nat) : Int), .int .i64 ((cntK 2 l x.inn + 1 : Nat) : Int)])) k).getD (.agg #[.int .i64 0, .int .i64 0]) = X3 l' k :=
 UW hL hl (by rw [hl, FQ, if_neg (fun z => by omega)]; rfl) (by rw [hl, FQ, if_pos ⟨rfl, by omega⟩])
theorem RL (h1 : ¬ (x.kind.toNat : Int) = 1) (h : ¬ (x.kind.toNat : Int) = 2) : ∀ k, (CE (CV L x.inn (.agg #[.int .i64 ((cntK 1 l x.inn : Nat) : Int), .int .i64 ((cntK 2 l x.inn : Nat) : Int)])) k).getD (.agg #[.int .i64 0, .int .i64 0]) = X3 l' k :=
 UW hL hl (by rw [hl, FQ, if_neg (fun z => by omega)]; rfl) (by rw [hl, FQ, if_neg (fun z => by omega)]; rfl)
end
def IQ (l : List El) : List (List UInt8) := (l.filter fun x => decide (x.kind.toNat = 10)).map (·.id)
theorem OI {l : List El} {x : El} (h : (x.kind.toNat : Int) = 10) : IQ (l ++ [x]) = IQ l ++ [x.id] := by
 unfold IQ
 rw [List.filter_append, List.map_append]
 simp [show x.kind.toNat = 10 by omega]
theorem Q7 {l : List El} {x : El} (h : ¬ (x.kind.toNat : Int) = 10) : IQ (l ++ [x]) = IQ l := by
 unfold IQ
 rw [List.filter_append]
 simp [show ¬ x.kind.toNat = 10 by omega]
def jU (m : Md) (k : List UInt8) : Bool := (decide (((cntK 1 m.els k : Nat) : Int) = (1 : Int))) && (decide ((1 : Int) ≤ ((cntK 2 m.els k : Nat) : Int)))
def ffS (p : List UInt8 → Bool) (l : List (List UInt8)) : Option (List UInt8) := ffN (fun _ => p) 0 l
theorem rW (p : List UInt8 → Bool) (l : List (List UInt8)) : Value.tuple #[str ((ffN (fun _ => p) 0 l).elim [] (fun x => x)), .bool (ffN (fun _ => p) 0 l).isSome] = IU (ffS p l) := by unfold IU ffS; cases ffN (fun _ => p) 0 l <;> rfl
def jT (m : Md) : Option (List UInt8) := ffS (jU m) ([] :: IQ m.els)
theorem M8 : (prog.info? 150).map (·.size) = some 2 := by kernel_rfl
theorem KR : (prog.info? 149).map (·.size) = some 1 := by kernel_rfl
theorem LY : (prog.info? 150).map (·.zero) = some (some (.agg #[.int .i64 0, .int .i64 0])) := by kernel_rfl
theorem KQ : (prog.info? 149).map (·.zero) = some (some (.map none)) := by kernel_rfl
theorem jV (m : Md) (L : List (List UInt8 × Value)) (hL : ∀ k, (CE L k).getD (.agg #[.int .i64 0, .int .i64 0]) = X3 m.els k) (g4 g11 : Nat) (k : List UInt8) (w : World) (hp : Blk w g4 149 [.map (some g11)]) (hm : Mp w g11 L) :
 Calls prog 88 #[str k, pg g4] w fun e w' => e = .returned (.bool (jU m k)) ∧ Fr0 w w' := by
 refine AK (vs := [_, _]) func88 rfl ntmps88 rfl ?_
 have M := CK w
 refine A4 (A0 (yb rfl (A1 (A2 (A4 (A0 (yl rfl rfl (Blk.c (hp.fr0 M.fr) 0 rfl) (yb rfl (ya rfl (C2 rfl rfl rfl underlying149 underlying9 LY (hm.fr M.fr (fun hh => hh)) (hL _)) (ya rfl (V7 (m := 0) rfl rfl rfl (ar rfl) isAgg3 (by decide) rfl) (ya rfl (B9 rfl rfl rfl) (yb rfl (AT 6 [(3, .bool false), (15, .bool ((decide (((cntK 1 m.els k : Nat) : Int) = (1 : Int))) && (decide ((1 : Int) ≤ ((cntK 2 m.els k : Nat) : Int)))))] (fun w' => Mem w AB [] w') ?_ (fun k9 => ?_))))))))))))))
 ·intro w1 M
  exact yb rfl (A1 (A2 (AD (AH rfl rfl ⟨rfl, M.fr⟩))))
 refine AE (d := 9) (b := (decide (((cntK 1 m.els k : Nat) : Int) = (1 : Int)))) rfl (fun h9 => ?_) (fun h9 => ?_)
 ·exact ym rfl rfl (Blk.c (hp.fr0 M.fr) 0 rfl) (yd rfl (yp rfl) (yd rfl (C2 rfl rfl rfl underlying149 underlying9 LY (hm.fr M.fr (fun hh => hh)) (hL _)) (yd rfl (V7 (m := 1) rfl rfl rfl (ar rfl) isAgg3 (by decide) rfl) (yd rfl (EP rfl rfl rfl) (yb rfl (k9 _ _ M ⟨rfl, (by rw [h9]; rfl), trivial⟩))))))
 ·iterate 5 refine yo rfl ?_
  exact yb rfl (k9 _ _ M ⟨rfl, (by rw [h9]; rfl), trivial⟩)
theorem jS (m : Md) (a : MdA) (ix : IxA) (gx : Nat) (w : World) (ho : MdOk m) (hx : IxAt w m a ix gx) :
 Calls prog 35 #[pg gx] w fun e w' => e = .returned (IU (jT m)) ∧ Fr0 w w' := by
 have hne := ho.nels
 refine AK (vs := [_]) func35 rfl ntmps35 rfl ?_
 have M := CK w
 refine A4 (A0 (yb rfl (yb rfl (A1 (A2 (A4 (A0 (HN M (A9 rfl) rfl rfl rfl fun g11 w1 hg11 M => BI M (A9 rfl) rfl rfl 149 rfl [.map none] KQ rfl fun g4 w2 hg4 M => BQ (cs' := [.map (some g11)]) M 0 (A9 rfl) rfl rfl rfl rfl rfl rfl rfl KR (AZ rfl) rfl fun w3 M => A1 (A2 ?_)))))))))
 refine A4 (A4 (A0 ?_))
 iterate 4 refine yb rfl ?_
 refine yl rfl rfl (Blk.c ((hx.fr0 M.fr).blk) 3 rfl) (ya rfl (CY rfl rfl (sl rfl)) (yb rfl (A1 (A2 (AV (CM (fun e wr mz => ∃ (i : Nat) (L : List (List UInt8 × Value)), e = [(0, pg gx), (4, pg g4), (16, .slice a.E m.els.length a.ec), (17, .int .i64 ((m.els.length : Nat) : Int)), (18, .int .i64 ((i : Nat) : Int))] ∧ Mem w AB [As.blk g4 149 [.map (some g11)], As.mp g11 L] wr ∧ (i ≤ m.els.length) ∧ (∀ k, (CE L k).getD (.agg #[.int .i64 0, .int .i64 0]) = X3 (m.els.take i) k) ∧ mz = m.els.length - i) ⟨0, [], rfl, M, Nat.zero_le _, fun _ => rfl, rfl⟩ ⟨rfl, rfl, rfl, rfl, rfl, trivial⟩ ?_))))))
 rintro _ w4 _ ⟨i, L, rfl, M, hi, hL, rfl⟩
 refine A4 (A0 (ya rfl (CH rfl rfl rfl) (A1 (A2 (A4 (AQ (b := (decide (((i : Nat) : Int) < ((m.els.length : Nat) : Int)))) rfl (fun h19 => ?_) (fun h19 => ?_)))))))
 ·have h19p := (odt h19)
  refine AL (A2 (A4 (AV (A4 (A0 ?_)))))
  obtain ⟨u, hu⟩ := DY (l := m.els) (i := i) (by omega)
  obtain ⟨b_u, o_u, hA_u⟩ := CL (k := 11) (by omega) (M.rd hx.md.els) hu
  refine ya rfl (BW i hA_u rfl rfl rfl (sl rfl) (by omega)) (ya rfl (AN rfl rfl (DK El.len (M.rd hx.md.els) hA_u hu) underlying62 rfl AU) (BI M (A9 rfl) rfl rfl 62 rfl [str [], str [], .int .u8 0, str [], str [], str [], .int .u8 0, str [], str [], .int .i64 0, .int .i64 0] AY rfl fun g6 w5 hg6 M => B5 (cs' := (El.cells u)) M 0 (A9 rfl) rfl rfl rfl rfl rfl AU rfl (AP rfl) (AW rfl) rfl fun w6 M => A1 (A2 (A4 (A0 (yl rfl rfl (M.cell 1 rfl rfl) (yb rfl (yl rfl rfl (M.cell 0 rfl rfl) (ya rfl (C2 rfl rfl rfl underlying149 underlying9 LY (M.mp 2 rfl) (hL _)) (BI M (A9 rfl) rfl rfl 150 rfl [.int .i64 0, .int .i64 0] LY rfl fun g7 w7 hg7 M => ?_))))))))))
  refine B5 (cs' := [.int .i64 ((cntK 1 (m.els.take i) u.inn : Nat) : Int), .int .i64 ((cntK 2 (m.els.take i) u.inn : Nat) : Int)]) M 0 (A9 rfl) rfl rfl rfl rfl rfl M8 rfl (AP rfl) (AW rfl) rfl fun w8 M => A1 (A2 (A4 (A4 (A0 (yb rfl (yl rfl rfl (M.cell 1 rfl rfl) (A1 (A2 (AV (A4 (A0 (ya rfl (B9 rfl rfl rfl) (yb rfl ?_)))))))))))))
  refine A1 (A2 (AQ (b := (decide ((u.kind.toNat : Int) = (1 : Int)))) rfl (fun h28 => ?_) (fun h28 => ?_)))
  ·have h28p := (odt h28)
   have hc1 := TJ 1 m.els i u.inn
   refine A0 (ya rfl (GT rfl rfl rfl (ar rfl) (by omega)) (yl rfl rfl (M.cell 0 rfl rfl) (ya rfl (CQ rfl rfl rfl (by omega)) (ya rfl (GT rfl rfl rfl (ar rfl) (by omega)) (BQ (cs' := [.int .i64 (((cntK 1 (m.els.take i) u.inn) + 1 : Nat) : Int), .int .i64 ((cntK 2 (m.els.take i) u.inn : Nat) : Int)]) M 0 (A9 rfl) rfl rfl rfl rfl rfl rfl rfl FT (AZ rfl) rfl fun w9 M => A1 (AC (A2 (A0 (yl rfl rfl (M.cell 2 rfl rfl) (yb rfl (yl rfl rfl (M.cell 1 rfl rfl) (ya rfl (AN (xs := [.int .i64 (((cntK 1 (m.els.take i) u.inn) + 1 : Nat) : Int), .int .i64 ((cntK 2 (m.els.take i) u.inn : Nat) : Int)]) rfl rfl (M.rdBlk 0 rfl rfl) underlying150 rfl M8) (ES M 3 (A9 rfl) rfl rfl rfl rfl rfl underlying149 underlying9 rfl ?_)))))))))))))
   intro w10 M
   refine A1 (AC (A2 (A0 (ya rfl (CQ rfl rfl rfl (by omega)) (yb rfl (A1 (BM [(0, pg gx), (4, pg g4), (16, .slice a.E m.els.length a.ec), (17, .int .i64 ((m.els.length : Nat) : Int)), (18, .int .i64 (((i + 1) : Nat) : Int))] (m.els.length - (i + 1)) ⟨i + 1, CV L u.inn (.agg #[.int .i64 (((cntK 1 (m.els.take i) u.inn) + 1 : Nat) : Int), .int .i64 ((cntK 2 (m.els.take i) u.inn : Nat) : Int)]), rfl, (M.pk [2, 3]), ?_, ?_, rfl⟩ (by first | omega | (simp <;> omega)) ⟨rfl, rfl, rfl, rfl, rfl, trivial⟩)))))))
   ·omega
   ·first
     | exact O2 hL (BH hu) h28p
     | exact UV hL (BH hu) h28p h34p
     | exact RL hL (BH hu) h28p h34p
  ·have h28p := (odf h28)
   refine A4 (A0 (ya rfl (B9 rfl rfl rfl) (yb rfl (A1 (A2 (AQ (b := (decide ((u.kind.toNat : Int) = (2 : Int)))) rfl (fun h34 => ?_) (fun h34 => ?_)))))))
   ·have h34p := (odt h34)
    have hc2 := TJ 2 m.els i u.inn
    refine A0 (ya rfl (GT rfl rfl rfl (ar rfl) (by omega)) (yl rfl rfl (M.cell 0 rfl rfl) (ya rfl (CQ rfl rfl rfl (by omega)) (ya rfl (GT rfl rfl rfl (ar rfl) (by omega)) (BQ (cs' := [.int .i64 ((cntK 1 (m.els.take i) u.inn : Nat) : Int), .int .i64 (((cntK 2 (m.els.take i) u.inn) + 1 : Nat) : Int)]) M 0 (A9 rfl) rfl rfl rfl rfl rfl rfl rfl FT (AZ rfl) rfl fun w11 M => A1 (AC (A2 (A0 (yl rfl rfl (M.cell 2 rfl rfl) (yb rfl (yl rfl rfl (M.cell 1 rfl rfl) (ya rfl (AN (xs := [.int .i64 ((cntK 1 (m.els.take i) u.inn : Nat) : Int), .int .i64 (((cntK 2 (m.els.take i) u.inn) + 1 : Nat) : Int)]) rfl rfl (M.rdBlk 0 rfl rfl) underlying150 rfl M8) (ES M 3 (A9 rfl) rfl rfl rfl rfl rfl underlying149 underlying9 rfl ?_)))))))))))))
    intro w12 M
    refine A1 (AC (A2 (A0 (ya rfl (CQ rfl rfl rfl (by omega)) (yb rfl (A1 (BM [(0, pg gx), (4, pg g4), (16, .slice a.E m.els.length a.ec), (17, .int .i64 ((m.els.length : Nat) : Int)), (18, .int .i64 (((i + 1) : Nat) : Int))] (m.els.length - (i + 1)) ⟨i + 1, CV L u.inn (.agg #[.int .i64 ((cntK 1 (m.els.take i) u.inn : Nat) : Int), .int .i64 (((cntK 2 (m.els.take i) u.inn) + 1 : Nat) : Int)]), rfl, (M.pk [2, 3]), ?_, ?_, rfl⟩ (by first | omega | (simp <;> omega)) ⟨rfl, rfl, rfl, rfl, rfl, trivial⟩)))))))
    ·omega
    ·first
      | exact O2 hL (BH hu) h28p
      | exact UV hL (BH hu) h28p h34p
      | exact RL hL (BH hu) h28p h34p
   ·have h34p := (odf h34)
    refine AL (AC (A2 (A0 (yl rfl rfl (M.cell 2 rfl rfl) (yb rfl (yl rfl rfl (M.cell 1 rfl rfl) (ya rfl (AN (xs := [.int .i64 ((cntK 1 (m.els.take i) u.inn : Nat) : Int), .int .i64 ((cntK 2 (m.els.take i) u.inn : Nat) : Int)]) rfl rfl (M.rdBlk 0 rfl rfl) underlying150 rfl M8) (ES M 3 (A9 rfl) rfl rfl rfl rfl rfl underlying149 underlying9 rfl fun w13 M => A1 (AC (A2 (A0 (ya rfl (CQ rfl rfl rfl (by omega)) (yb rfl ?_)))))))))))))
    refine A1 (BM [(0, pg gx), (4, pg g4), (16, .slice a.E m.els.length a.ec), (17, .int .i64 ((m.els.length : Nat) : Int)), (18, .int .i64 (((i + 1) : Nat) : Int))] (m.els.length - (i + 1)) ⟨i + 1, CV L u.inn (.agg #[.int .i64 ((cntK 1 (m.els.take i) u.inn : Nat) : Int), .int .i64 ((cntK 2 (m.els.take i) u.inn : Nat) : Int)]), rfl, (M.pk [2, 3]), ?_, ?_, rfl⟩ (by first | omega | (simp <;> omega)) ⟨rfl, rfl, rfl, rfl, rfl, trivial⟩)
    ·omega
    ·first
      | exact O2 hL (BH hu) h28p
      | exact UV hL (BH hu) h28p h34p
      | exact RL hL (BH hu) h28p h34p
 ·have h19p := (odf h19)
  refine CD (AI (AI ?_))
  have hiE : i = m.els.length := by omega
  rw [hiE, List.take_length] at hL
  refine BB (A2 (A4 (A0 (F1 M (A9 rfl) rfl rfl [str []] ([str []]) rfl rfl rfl rfl underlying45 D5 rfl rfl (JL rfl) rfl fun g45 w14 hg45 M => yb rfl (A1 (A2 (A4 (A4 (A0 ?_)))))))))
  iterate 4 refine yb rfl ?_
  refine yl rfl rfl (Blk.c ((hx.fr0 M.fr).blk) 3 rfl) (ya rfl (CY rfl rfl (sl rfl)) (yb rfl (A1 (A2 (AV ?_)))))
  have M := M.blkOwn 0 (size := 1) (n := 1) rfl rfl (by unfold maxLen; omega)
  refine CM (fun e wr mz => ∃ (j : Nat) (acc : List (List UInt8)) (A : Option Addr) (c : Nat), e = [(4, pg g4), (8, .slice A acc.length c), (50, .slice a.E m.els.length a.ec), (51, .int .i64 ((m.els.length : Nat) : Int)), (52, .int .i64 ((j : Nat) : Int))] ∧ Mem w AB [As.own w.heap.size 9 1 (.slice A acc.length c) acc.length (AR C4 acc), As.blk g4 149 [.map (some g11)], As.mp g11 L] wr ∧ (j ≤ m.els.length) ∧ (acc = [] :: IQ (m.els.take j)) ∧ (acc.length ≤ j + 1) ∧ mz = m.els.length - j) ⟨0, [[]], some ⟨g45, 0, none⟩, 1, rfl, M, Nat.zero_le _, rfl, Nat.le_refl _, rfl⟩ ⟨rfl, rfl, rfl, rfl, rfl, trivial⟩ ?_
  rintro _ w15 _ ⟨j, acc, A, c, rfl, M, hj, hacc, hal, rfl⟩
  refine A4 (A0 (ya rfl (CH rfl rfl rfl) (A1 (A2 (A4 (AQ (b := (decide (((j : Nat) : Int) < ((m.els.length : Nat) : Int)))) rfl (fun h53 => ?_) (fun h53 => ?_)))))))
  ·have h53p := (odt h53)
   refine AL (A2 (A4 (AV (A4 (A0 ?_)))))
   obtain ⟨v, hv⟩ := DY (l := m.els) (i := j) (by omega)
   obtain ⟨b_v, o_v, hA_v⟩ := CL (k := 11) (by omega) (M.rd hx.md.els) hv
   refine ya rfl (BW j hA_v rfl rfl rfl (sl rfl) (by omega)) (ya rfl (AN rfl rfl (DK El.len (M.rd hx.md.els) hA_v hv) underlying62 rfl AU) (BI M (A9 rfl) rfl rfl 62 rfl [str [], str [], .int .u8 0, str [], str [], str [], .int .u8 0, str [], str [], .int .i64 0, .int .i64 0] AY rfl fun g10 w16 hg10 M => B5 (cs' := (El.cells v)) M 0 (A9 rfl) rfl rfl rfl rfl rfl AU rfl (AP rfl) (AW rfl) rfl fun w17 M => A1 (A2 (A4 (A0 (yb rfl (yl rfl rfl (M.cell 0 rfl rfl) (ya rfl (B9 rfl rfl rfl) (A1 (A2 (AQ (b := (decide ((v.kind.toNat : Int) = (10 : Int)))) rfl (fun h58 => ?_) (fun h58 => ?_))))))))))))
   ·have h58p := (odt h58)
    refine A0 (yb rfl (yb rfl (yl rfl rfl (M.cell 0 rfl rfl) (F1 M (A9 rfl) rfl rfl [str v.id] ([str v.id]) rfl rfl rfl rfl underlying45 D5 rfl rfl (JL rfl) rfl fun g62 w18 hg62 M => EQ (len' := (acc ++ [v.id]).length) (xs' := AR C4 (acc ++ [v.id])) M 2 (A9 rfl) rfl rfl rfl rfl rfl rfl (M.rdBlk 0 rfl rfl) underlying45 CU rfl (by decide) (AW rfl) (Nat.le_refl _) (Nat.le_refl _) (by first | omega | (simp <;> omega)) (by unfold maxLen; first | omega | (simp only [List.length_append, List.length_cons, List.length_nil]; omega)) (by simp) (by simp [AR, C4]) fun A63 c63 w19 M => yb rfl (A1 (AC (A2 (A0 (ya rfl (CQ rfl rfl rfl (by omega)) (yb rfl (A1 ?_)))))))))))
    refine BM [(4, pg g4), (8, .slice A63 (acc ++ [v.id]).length c63), (50, .slice a.E m.els.length a.ec), (51, .int .i64 ((m.els.length : Nat) : Int)), (52, .int .i64 (((j + 1) : Nat) : Int))] (m.els.length - (j + 1)) ⟨j + 1, acc ++ [v.id], A63, c63, rfl, (M.pk [2, 3, 4]), ?_, ?_, ?_, rfl⟩ (by first | omega | (simp <;> omega)) ⟨rfl, rfl, rfl, rfl, rfl, trivial⟩
    ·omega
    ·first
      | (rw [hacc, BH hv, OI h58p]; rfl)
      | (rw [hacc, BH hv, Q7 h58p])
    ·first | omega | (simp only [List.length_append, List.length_cons, List.length_nil]; omega)
   ·have h58p := (odf h58)
    refine AL (AC (A2 (A0 (ya rfl (CQ rfl rfl rfl (by omega)) (yb rfl (A1 (BM [(4, pg g4), (8, .slice A acc.length c), (50, .slice a.E m.els.length a.ec), (51, .int .i64 ((m.els.length : Nat) : Int)), (52, .int .i64 (((j + 1) : Nat) : Int))] (m.els.length - (j + 1)) ⟨j + 1, acc, A, c, rfl, (M.pk [1, 2, 3]), ?_, ?_, ?_, rfl⟩ (by first | omega | (simp <;> omega)) ⟨rfl, rfl, rfl, rfl, rfl, trivial⟩)))))))
    ·omega
    ·first
      | (rw [hacc, BH hv, OI h58p]; rfl)
      | (rw [hacc, BH hv, Q7 h58p])
    ·first | omega | (simp only [List.length_append, List.length_cons, List.length_nil]; omega)
  ·have h53p := (odf h53)
   refine CD (AI (AI ?_))
   have hjE : j = m.els.length := by omega
   rw [hjE, List.take_length] at hacc
   refine BB (A2 (A4 (A0 (yb rfl (ya rfl (CT (us := []) (vs := [pg g4]) rfl rfl rfl) (cp M 67 rfl (AF rfl rfl call86) (YR _ _ acc (by have := ho.nels; omega) 88 [pg g4] (jU m) _ (GE call88 (fun z _ w9 hf9 => jV m L hL g4 g11 z w9 ((M.blk 1 rfl).fr0 hf9) ((M.mp 2 rfl).fr hf9 (fun hh => hh)))) (M.rdOwn 0 rfl)) fun w20 M => ?_))))))
   iterate 4 refine yb rfl ?_
   exact A1 (A2 (AD (BY rfl rfl rfl ⟨by rw [jT, ← hacc]; exact congrArg Ending.returned (rW _ _), M.fr⟩)))
end Go.Proofs.YtadgfojhjnkliaaGreatDoor
