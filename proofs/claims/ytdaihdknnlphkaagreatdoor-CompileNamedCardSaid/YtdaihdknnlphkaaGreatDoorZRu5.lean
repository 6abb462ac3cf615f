/- Lemmas that the last text rests on. Condition: each says its own. -/
import Derived.Test.YtdaihdknnlphkaaGreatDoorZRu4
set_option maxHeartbeats 16000000
set_option maxRecDepth 100000
namespace Go.Proofs.YtdaihdknnlphkaaGreatDoor
open Go.RowKit
open Tryz
section
variable {P : Program} {e : Env} {w : World} {o : Oper}
theorem XB {t el n sz : Nat} (m : Nat) {x i : Operand} {cs : Array Value} {u : Value} (ho : o.op = .index t x i) (hx : ev e x = some (.agg cs)) (hi : ev e i = some (.int .i64 (m : Int))) (ht : EK P t = some (n, el, sz)) (hA : ∀ w, (isAgg el).run P w = .ok false w) (hm : m < n) (hu : cs[m * sz]? = some u) : Y P e o w u := fun ρ h => by
 unfold EK at ht
 split at ht
 ·rename_i el' n' hu'
  split at ht
  ·rename_i i' hi'
   simp only [Option.some.injEq, Prod.mk.injEq] at ht
   obtain ⟨rfl, rfl, rfl⟩ := ht
   have h1 : 0 ≤ (m : Int) := by omega
   unfold execOp
   simp [ho, h _ _ hx, h _ _ hi, Instr.index, asIntOf, run_underlying hu', h1, hm, sizeOf, typeInfo, hi', part, hA, hu]
  ·cases ht
 ·cases ht
end
theorem bO (A : Option Addr) (c : Nat) (l : List (List UInt8)) (hl : l.length ≤ 4611686018427387904) (f : FuncId) (cs : List Value) (p : List UInt8 → Bool) (w : World) (hP : PredJ prog f cs str l (fun _ => p) AD (fun _ _ => True) w) (hR : Rd w A (l.length * 1) (AS D7 l)) :
 Calls prog 75 #[.slice A l.length c, .func (.func 76) #[] #[], .func (.func f) #[] cs.toArray] w fun e w' => e = .returned (.tuple #[str ((ffN (fun _ => p) 0 l).elim [] (fun x => x)), .bool (ffN (fun _ => p) 0 l).isSome]) ∧ Fr0 w w' :=
 (jD A c l hl f cs (fun _ => p) AD (fun _ _ => True) w hP (fun _ hf => hR.fr0 hf) trivial).mono fun _ _ ⟨h1, _, h2⟩ => ⟨h1, h2⟩
def cntK (t : Nat) (l : List El) (k : List UInt8) : Nat := (l.filter fun x => decide (x.inn = k) && decide (x.kind.toNat = t)).length
def ZD (l : List El) (k : List UInt8) : Value := .agg #[.int .i64 ((cntK 1 l k : Nat) : Int), .int .i64 ((cntK 2 l k : Nat) : Int)]
theorem p2 (t : Nat) (l : List El) (k : List UInt8) : cntK t l k ≤ l.length := List.length_filter_le _ _
theorem VE (t : Nat) (l : List El) (i : Nat) (k : List UInt8) : cntK t (l.take i) k ≤ l.length := Nat.le_trans (p2 _ _ _) (by rw [List.length_take]; omega)
theorem G6 (t : Nat) (l : List El) (x : El) (k : List UInt8) : cntK t (l ++ [x]) k = cntK t l k + (if x.inn = k ∧ x.kind.toNat = t then 1 else 0) := by
 unfold cntK
 rw [List.filter_append, List.length_append]
 congr 1
 by_cases h1 : x.inn = k <;> by_cases h2 : x.kind.toNat = t <;> simp [h1, h2]
section
variable {L : List (List UInt8 × Value)} {l l' : List El} {x : El} (hL : ∀ k, (D5 L k).getD (.agg #[.int .i64 0, .int .i64 0]) = ZD l k) (hl : l' = l ++ [x])
include hL hl
theorem WZ {a b : Nat} (ha : a = cntK 1 l' x.inn) (hb : b = cntK 2 l' x.inn) : ∀ k, (D5 (EW L x.inn (.agg #[.int .i64 (a : Int), .int .i64 (b : Int)])) k).getD (.agg #[.int .i64 0, .int .i64 0]) = ZD l' k := fun k => by
 rw [IB]
 by_cases h : k = x.inn
 ·subst h; subst ha; subst hb; rw [if_pos rfl]; rfl
 ·rw [if_neg h, hL]
  unfold ZD
  rw [hl, G6, G6, if_neg (fun z => h z.1.symm), if_neg (fun z => h z.1.symm)]; rfl
theorem PJ (h : (x.kind.toNat : Int) = 1) : ∀ k, (D5 (EW L x.inn (.agg #[.int .i64 ((cntK 1 l x.inn + 1 : Nat) : Int), .int .i64 ((cntK 2 l x.inn : Nat) : Int)])) k).getD (.agg #[.int .i64 0, .int .i64 0]) = ZD l' k :=
 WZ hL hl (by rw [hl, G6, if_pos ⟨rfl, by omega⟩]) (by rw [hl, G6, if_neg (fun z => by omega)]; rfl)
theorem WY (_h1 : ¬ (x.kind.toNat : Int) = 1) (h : (x.kind.toNat : Int) = 2) : ∀ k, (D5 (EW L x.inn (.agg #[.int .i64 ((cntK 1 l x.inn : Nat) : Int), .int .i64 ((cntK 2 l x.inn + 1 : Nat) : Int)])) k).getD (.agg #[.int .i64 0, .int .i64 0]) = ZD l' k :=
 WZ hL hl (by rw [hl, G6, if_neg (fun z => by omega)]; rfl) (by rw [hl, G6, if_pos ⟨rfl, by omega⟩])
theorem T8 (h1 : ¬ (x.kind.toNat : Int) = 1) (h : ¬ (x.kind.toNat : Int) = 2) : ∀ k, (D5 (EW L x.inn (.agg #[.int .i64 ((cntK 1 l x.inn : Nat) : Int), .int .i64 ((cntK 2 l x.inn : Nat) : Int)])) k).getD (.agg #[.int .i64 0, .int .i64 0]) = ZD l' k :=
 WZ hL hl (by rw [hl, G6, if_neg (fun z => by omega)]; rfl) (by rw [hl, G6, if_neg (fun z => by omega)]; rfl)
end
def ET (l : List El) : List (List UInt8) := (l.filter fun x => decide (x.kind.toNat = 10)).map (·.id)
theorem PW {l : List El} {x : El} (h : (x.kind.toNat : Int) = 10) : ET (l ++ [x]) = ET l ++ [x.id] := by
 unfold ET
 rw [List.filter_append, List.map_append]
 simp [show x.kind.toNat = 10 by omega]
theorem RN {l : List El} {x : El} (h : ¬ (x.kind.toNat : Int) = 10) : ET (l ++ [x]) = ET l := by
 unfold ET
 rw [List.filter_append]
 simp [show ¬ x.kind.toNat = 10 by omega]
def SW (m : Md) (k : List UInt8) : Bool := (decide (((cntK 1 m.els k : Nat) : Int) = (1 : Int))) && (decide ((1 : Int) ≤ ((cntK 2 m.els k : Nat) : Int)))
def ffS (p : List UInt8 → Bool) (l : List (List UInt8)) : Option (List UInt8) := ffN (fun _ => p) 0 l
theorem wS (p : List UInt8 → Bool) (l : List (List UInt8)) : Value.tuple #[str ((ffN (fun _ => p) 0 l).elim [] (fun x => x)), .bool (ffN (fun _ => p) 0 l).isSome] = JF (ffS p l) := by unfold JF ffS; cases ffN (fun _ => p) 0 l <;> rfl
def V3 (m : Md) : Option (List UInt8) := ffS (SW m) ([] :: ET m.els)
theorem NJ : (prog.info? 107).map (·.size) = some 2 := by kernel_rfl
theorem MA : (prog.info? 106).map (·.size) = some 1 := by kernel_rfl
theorem NB : (prog.info? 107).map (·.zero) = some (some (.agg #[.int .i64 0, .int .i64 0])) := by kernel_rfl
theorem M9 : (prog.info? 106).map (·.zero) = some (some (.map none)) := by kernel_rfl
theorem o6 (m : Md) (L : List (List UInt8 × Value)) (hL : ∀ k, (D5 L k).getD (.agg #[.int .i64 0, .int .i64 0]) = ZD m.els k) (g4 g11 : Nat) (k : List UInt8) (w : World) (hp : Blk w g4 106 [.map (some g11)]) (hm : Mp w g11 L) :
 Calls prog 77 #[str k, pg g4] w fun e w' => e = .returned (.bool (SW m k)) ∧ Fr0 w w' := by
 refine AJ (vs := [_, _]) func77 rfl ntmps77 rfl ?_
 have M := CN w
 refine A9 (A0 (yb rfl (A4 (A5 (A9 (A0 (yl rfl rfl (Blk.c (hp.fr0 M.fr) 0 rfl) (yb rfl (ya rfl (CK rfl rfl rfl underlying106 underlying9 NB (hm.fr M.fr (fun hh => hh)) (hL _)) (ya rfl (XB (m := 0) rfl rfl rfl (ar rfl) isAgg3 (by decide) rfl) (ya rfl (BB rfl rfl rfl) (yb rfl (AX 6 [(3, .bool false), (15, .bool ((decide (((cntK 1 m.els k : Nat) : Int) = (1 : Int))) && (decide ((1 : Int) ≤ ((cntK 2 m.els k : Nat) : Int)))))] (fun w' => Mem w AD [] w') ?_ (fun k9 => ?_))))))))))))))
 ·intro w1 M
  exact yb rfl (A4 (A5 (AF (AK rfl rfl ⟨rfl, M.fr⟩))))
 refine AM (d := 9) (b := (decide (((cntK 1 m.els k : Nat) : Int) = (1 : Int)))) rfl (fun h9 => ?_) (fun h9 => ?_)
 ·exact ym rfl rfl (Blk.c (hp.fr0 M.fr) 0 rfl) (yd rfl (yp rfl) (yd rfl (CK rfl rfl rfl underlying106 underlying9 NB (hm.fr M.fr (fun hh => hh)) (hL _)) (yd rfl (XB (m := 1) rfl rfl rfl (ar rfl) isAgg3 (by decide) rfl) (yd rfl (FG rfl rfl rfl) (yb rfl (k9 _ _ M ⟨rfl, (by rw [h9]; rfl), trivial⟩))))))
 ·iterate 5 refine yo rfl ?_
  exact yb rfl (k9 _ _ M ⟨rfl, (by rw [h9]; rfl), trivial⟩)
theorem o4 (m : Md) (a : MdA) (ix : IxA) (gx : Nat) (w : World) (ho : MdOk m) (hx : IxAt w m a ix gx) :
 Calls prog 27 #[pg gx] w fun e w' => e = .returned (JF (V3 m)) ∧ Fr0 w w' := by
 have hne := ho.nels
 refine AJ (vs := [_]) func27 rfl ntmps27 rfl ?_
 have M := CN w
 refine A9 (A0 (yb rfl (yb rfl (A4 (A5 (A9 (A0 (J3 M (AA rfl) rfl rfl rfl fun g11 w1 hg11 M => BI M (AA rfl) rfl rfl 106 rfl [.map none] M9 rfl fun g4 w2 hg4 M => BP (cs' := [.map (some g11)]) M 0 (AA rfl) rfl rfl rfl rfl rfl rfl rfl MA (AZ rfl) rfl fun w3 M => A4 (A5 ?_)))))))))
 refine A9 (A9 (A0 ?_))
 iterate 4 refine yb rfl ?_
 refine yl rfl rfl (Blk.c ((hx.fr0 M.fr).blk) 3 rfl) (ya rfl (CS rfl rfl (sl rfl)) (yb rfl (A4 (A5 (AV (CL (fun e wr mz => ∃ (i : Nat) (L : List (List UInt8 × Value)), e = [(0, pg gx), (4, pg g4), (16, .slice a.E m.els.length a.ec), (17, .int .i64 ((m.els.length : Nat) : Int)), (18, .int .i64 ((i : Nat) : Int))] ∧ Mem w AD [As.blk g4 106 [.map (some g11)], As.mp g11 L] wr ∧ (i ≤ m.els.length) ∧ (∀ k, (D5 L k).getD (.agg #[.int .i64 0, .int .i64 0]) = ZD (m.els.take i) k) ∧ mz = m.els.length - i) ⟨0, [], rfl, M, Nat.zero_le _, fun _ => rfl, rfl⟩ ⟨rfl, rfl, rfl, rfl, rfl, trivial⟩ ?_))))))
 rintro _ w4 _ ⟨i, L, rfl, M, hi, hL, rfl⟩
 refine A9 (A0 (ya rfl (CB rfl rfl rfl) (A4 (A5 (A9 (AT (b := (decide (((i : Nat) : Int) < ((m.els.length : Nat) : Int)))) rfl (fun h19 => ?_) (fun h19 => ?_)))))))
 ·have h19p := (odt h19)
  refine AN (A5 (A9 (AV (A9 (A0 ?_)))))
  obtain ⟨u, hu⟩ := DA (l := m.els) (i := i) (by omega)
  obtain ⟨b_u, o_u, hA_u⟩ := C7 (k := 11) (by omega) (M.rd hx.md.els) hu
  refine ya rfl (BM i hA_u rfl rfl rfl (sl rfl) (by omega)) (ya rfl (AU rfl rfl (DD El.len (M.rd hx.md.els) hA_u hu) underlying39 rfl AP) (BI M (AA rfl) rfl rfl 39 rfl [str [], str [], .int .u8 0, str [], str [], str [], .int .u8 0, str [], str [], .int .i64 0, .int .i64 0] B7 rfl fun g6 w5 hg6 M => B8 (cs' := (El.cells u)) M 0 (AA rfl) rfl rfl rfl rfl rfl AP rfl (AI rfl) (AY rfl) rfl fun w6 M => A4 (A5 (A9 (A0 (yl rfl rfl (M.cell 1 rfl rfl) (yb rfl (yl rfl rfl (M.cell 0 rfl rfl) (ya rfl (CK rfl rfl rfl underlying106 underlying9 NB (M.mp 2 rfl) (hL _)) (BI M (AA rfl) rfl rfl 107 rfl [.int .i64 0, .int .i64 0] NB rfl fun g7 w7 hg7 M => ?_))))))))))
  refine B8 (cs' := [.int .i64 ((cntK 1 (m.els.take i) u.inn : Nat) : Int), .int .i64 ((cntK 2 (m.els.take i) u.inn : Nat) : Int)]) M 0 (AA rfl) rfl rfl rfl rfl rfl NJ rfl (AI rfl) (AY rfl) rfl fun w8 M => A4 (A5 (A9 (A9 (A0 (yb rfl (yl rfl rfl (M.cell 1 rfl rfl) (A4 (A5 (AV (A9 (A0 (ya rfl (BB rfl rfl rfl) (yb rfl ?_)))))))))))))
  refine A4 (A5 (AT (b := (decide ((u.kind.toNat : Int) = (1 : Int)))) rfl (fun h28 => ?_) (fun h28 => ?_)))
  ·have h28p := (odt h28)
   have hc1 := VE 1 m.els i u.inn
   refine A0 (ya rfl (HH rfl rfl rfl (ar rfl) (by omega)) (yl rfl rfl (M.cell 0 rfl rfl) (ya rfl (CI rfl rfl rfl (by omega)) (ya rfl (HH rfl rfl rfl (ar rfl) (by omega)) (BP (cs' := [.int .i64 (((cntK 1 (m.els.take i) u.inn) + 1 : Nat) : Int), .int .i64 ((cntK 2 (m.els.take i) u.inn : Nat) : Int)]) M 0 (AA rfl) rfl rfl rfl rfl rfl rfl rfl IG (AZ rfl) rfl fun w9 M => A4 (AC (A5 (A0 (yl rfl rfl (M.cell 2 rfl rfl) (yb rfl (yl rfl rfl (M.cell 1 rfl rfl) (ya rfl (AU (xs := [.int .i64 (((cntK 1 (m.els.take i) u.inn) + 1 : Nat) : Int), .int .i64 ((cntK 2 (m.els.take i) u.inn : Nat) : Int)]) rfl rfl (M.rdBlk 0 rfl rfl) underlying107 rfl NJ) (FR M 3 (AA rfl) rfl rfl rfl rfl rfl underlying106 underlying9 rfl ?_)))))))))))))
   intro w10 M
   refine A4 (AC (A5 (A0 (ya rfl (CI rfl rfl rfl (by omega)) (yb rfl (A4 (BF [(0, pg gx), (4, pg g4), (16, .slice a.E m.els.length a.ec), (17, .int .i64 ((m.els.length : Nat) : Int)), (18, .int .i64 (((i + 1) : Nat) : Int))] (m.els.length - (i + 1)) ⟨i + 1, EW L u.inn (.agg #[.int .i64 (((cntK 1 (m.els.take i) u.inn) + 1 : Nat) : Int), .int .i64 ((cntK 2 (m.els.take i) u.inn : Nat) : Int)]), rfl, (M.pk [2, 3]), ?_, ?_, rfl⟩ (by first | omega | (simp <;> omega)) ⟨rfl, rfl, rfl, rfl, rfl, trivial⟩)))))))
   ·omega
   ·first
     | exact PJ hL (B3 hu) h28p
     | exact WY hL (B3 hu) h28p h34p
     | exact T8 hL (B3 hu) h28p h34p
  ·have h28p := (odf h28)
   refine A9 (A0 (ya rfl (BB rfl rfl rfl) (yb rfl (A4 (A5 (AT (b := (decide ((u.kind.toNat : Int) = (2 : Int)))) rfl (fun h34 => ?_) (fun h34 => ?_)))))))
   ·have h34p := (odt h34)
    have hc2 := VE 2 m.els i u.inn
    refine A0 (ya rfl (HH rfl rfl rfl (ar rfl) (by omega)) (yl rfl rfl (M.cell 0 rfl rfl) (ya rfl (CI rfl rfl rfl (by omega)) (ya rfl (HH rfl rfl rfl (ar rfl) (by omega)) (BP (cs' := [.int .i64 ((cntK 1 (m.els.take i) u.inn : Nat) : Int), .int .i64 (((cntK 2 (m.els.take i) u.inn) + 1 : Nat) : Int)]) M 0 (AA rfl) rfl rfl rfl rfl rfl rfl rfl IG (AZ rfl) rfl fun w11 M => A4 (AC (A5 (A0 (yl rfl rfl (M.cell 2 rfl rfl) (yb rfl (yl rfl rfl (M.cell 1 rfl rfl) (ya rfl (AU (xs := [.int .i64 ((cntK 1 (m.els.take i) u.inn : Nat) : Int), .int .i64 (((cntK 2 (m.els.take i) u.inn) + 1 : Nat) : Int)]) rfl rfl (M.rdBlk 0 rfl rfl) underlying107 rfl NJ) (FR M 3 (AA rfl) rfl rfl rfl rfl rfl underlying106 underlying9 rfl ?_)))))))))))))
    intro w12 M
    refine A4 (AC (A5 (A0 (ya rfl (CI rfl rfl rfl (by omega)) (yb rfl (A4 (BF [(0, pg gx), (4, pg g4), (16, .slice a.E m.els.length a.ec), (17, .int .i64 ((m.els.length : Nat) : Int)), (18, .int .i64 (((i + 1) : Nat) : Int))] (m.els.length - (i + 1)) ⟨i + 1, EW L u.inn (.agg #[.int .i64 ((cntK 1 (m.els.take i) u.inn : Nat) : Int), .int .i64 (((cntK 2 (m.els.take i) u.inn) + 1 : Nat) : Int)]), rfl, (M.pk [2, 3]), ?_, ?_, rfl⟩ (by first | omega | (simp <;> omega)) ⟨rfl, rfl, rfl, rfl, rfl, trivial⟩)))))))
    ·omega
    ·first
      | exact PJ hL (B3 hu) h28p
      | exact WY hL (B3 hu) h28p h34p
      | exact T8 hL (B3 hu) h28p h34p
   ·have h34p := (odf h34)
    refine AN (AC (A5 (A0 (yl rfl rfl (M.cell 2 rfl rfl) (yb rfl (yl rfl rfl (M.cell 1 rfl rfl) (ya rfl (AU (xs := [.int .i64 ((cntK 1 (m.els.take i) u.inn : Nat) : Int), .int .i64 ((cntK 2 (m.els.take i) u.inn : Nat) : Int)]) rfl rfl (M.rdBlk 0 rfl rfl) underlying107 rfl NJ) (FR M 3 (AA rfl) rfl rfl rfl rfl rfl underlying106 underlying9 rfl fun w13 M => A4 (AC (A5 (A0 (ya rfl (CI rfl rfl rfl (by omega)) (yb rfl ?_)))))))))))))
    refine A4 (BF [(0, pg gx), (4, pg g4), (16, .slice a.E m.els.length a.ec), (17, .int .i64 ((m.els.length : Nat) : Int)), (18, .int .i64 (((i + 1) : Nat) : Int))] (m.els.length - (i + 1)) ⟨i + 1, EW L u.inn (.agg #[.int .i64 ((cntK 1 (m.els.take i) u.inn : Nat) : Int), .int .i64 ((cntK 2 (m.els.take i) u.inn : Nat) : Int)]), rfl, (M.pk [2, 3]), ?_, ?_, rfl⟩ (by first | omega | (simp <;> omega)) ⟨rfl, rfl, rfl, rfl, rfl, trivial⟩)
    ·omega
    ·first
      | exact PJ hL (B3 hu) h28p
      | exact WY hL (B3 hu) h28p h34p
      | exact T8 hL (B3 hu) h28p h34p
 ·have h19p := (odf h19)
  refine C2 (AG (AG ?_))
  have hiE : i = m.els.length := by omega
  rw [hiE, List.take_length] at hL
  refine B5 (A5 (A9 (A0 (DC M (AA rfl) rfl rfl [str []] ([str []]) rfl rfl rfl rfl underlying29 CR rfl rfl (IK rfl) rfl fun g45 w14 hg45 M => yb rfl (A4 (A5 (A9 (A9 (A0 ?_)))))))))
  iterate 4 refine yb rfl ?_
  refine yl rfl rfl (Blk.c ((hx.fr0 M.fr).blk) 3 rfl) (ya rfl (CS rfl rfl (sl rfl)) (yb rfl (A4 (A5 (AV ?_)))))
  have M := M.blkOwn 0 (size := 1) (n := 1) rfl rfl (by unfold maxLen; omega)
  refine CL (fun e wr mz => ∃ (j : Nat) (acc : List (List UInt8)) (A : Option Addr) (c : Nat), e = [(4, pg g4), (8, .slice A acc.length c), (50, .slice a.E m.els.length a.ec), (51, .int .i64 ((m.els.length : Nat) : Int)), (52, .int .i64 ((j : Nat) : Int))] ∧ Mem w AD [As.own w.heap.size 9 1 (.slice A acc.length c) acc.length (AS D7 acc), As.blk g4 106 [.map (some g11)], As.mp g11 L] wr ∧ (j ≤ m.els.length) ∧ (acc = [] :: ET (m.els.take j)) ∧ (acc.length ≤ j + 1) ∧ mz = m.els.length - j) ⟨0, [[]], some ⟨g45, 0, none⟩, 1, rfl, M, Nat.zero_le _, rfl, Nat.le_refl _, rfl⟩ ⟨rfl, rfl, rfl, rfl, rfl, trivial⟩ ?_
  rintro _ w15 _ ⟨j, acc, A, c, rfl, M, hj, hacc, hal, rfl⟩
  refine A9 (A0 (ya rfl (CB rfl rfl rfl) (A4 (A5 (A9 (AT (b := (decide (((j : Nat) : Int) < ((m.els.length : Nat) : Int)))) rfl (fun h53 => ?_) (fun h53 => ?_)))))))
  ·have h53p := (odt h53)
   refine AN (A5 (A9 (AV (A9 (A0 ?_)))))
   obtain ⟨v, hv⟩ := DA (l := m.els) (i := j) (by omega)
   obtain ⟨b_v, o_v, hA_v⟩ := C7 (k := 11) (by omega) (M.rd hx.md.els) hv
   refine ya rfl (BM j hA_v rfl rfl rfl (sl rfl) (by omega)) (ya rfl (AU rfl rfl (DD El.len (M.rd hx.md.els) hA_v hv) underlying39 rfl AP) (BI M (AA rfl) rfl rfl 39 rfl [str [], str [], .int .u8 0, str [], str [], str [], .int .u8 0, str [], str [], .int .i64 0, .int .i64 0] B7 rfl fun g10 w16 hg10 M => B8 (cs' := (El.cells v)) M 0 (AA rfl) rfl rfl rfl rfl rfl AP rfl (AI rfl) (AY rfl) rfl fun w17 M => A4 (A5 (A9 (A0 (yb rfl (yl rfl rfl (M.cell 0 rfl rfl) (ya rfl (BB rfl rfl rfl) (A4 (A5 (AT (b := (decide ((v.kind.toNat : Int) = (10 : Int)))) rfl (fun h58 => ?_) (fun h58 => ?_))))))))))))
   ·have h58p := (odt h58)
    refine A0 (yb rfl (yb rfl (yl rfl rfl (M.cell 0 rfl rfl) (DC M (AA rfl) rfl rfl [str v.id] ([str v.id]) rfl rfl rfl rfl underlying29 CR rfl rfl (IK rfl) rfl fun g62 w18 hg62 M => J4 (len' := (acc ++ [v.id]).length) (xs' := AS D7 (acc ++ [v.id])) M 2 (AA rfl) rfl rfl rfl rfl rfl rfl (M.rdBlk 0 rfl rfl) underlying29 JA rfl (by decide) (AY rfl) (Nat.le_refl _) (Nat.le_refl _) (by first | omega | (simp <;> omega)) (by unfold maxLen; first | omega | (simp only [List.length_append, List.length_cons, List.length_nil]; omega)) (by simp) (by simp [AS, D7]) fun A63 c63 w19 M => yb rfl (A4 (AC (A5 (A0 (ya rfl (CI rfl rfl rfl (by omega)) (yb rfl (A4 ?_)))))))))))
    refine BF [(4, pg g4), (8, .slice A63 (acc ++ [v.id]).length c63), (50, .slice a.E m.els.length a.ec), (51, .int .i64 ((m.els.length : Nat) : Int)), (52, .int .i64 (((j + 1) : Nat) : Int))] (m.els.length - (j + 1)) ⟨j + 1, acc ++ [v.id], A63, c63, rfl, (M.pk [2, 3, 4]), ?_, ?_, ?_, rfl⟩ (by first | omega | (simp <;> omega)) ⟨rfl, rfl, rfl, rfl, rfl, trivial⟩
    ·omega
    ·first
      | (rw [hacc, B3 hv, PW h58p]; rfl)
      | (rw [hacc, B3 hv, RN h58p])
    ·first | omega | (simp only [List.length_append, List.length_cons, List.length_nil]; omega)
   ·have h58p := (odf h58)
    refine AN (AC (A5 (A0 (ya rfl (CI rfl rfl rfl (by omega)) (yb rfl (A4 (BF [(4, pg g4), (8, .slice A acc.length c), (50, .slice a.E m.els.length a.ec), (51, .int .i64 ((m.els.length : Nat) : Int)), (52, .int .i64 (((j + 1) : Nat) : Int))] (m.els.length - (j + 1)) ⟨j + 1, acc, A, c, rfl, (M.pk [1, 2, 3]), ?_, ?_, ?_, rfl⟩ (by first | omega | (simp <;> omega)) ⟨rfl, rfl, rfl, rfl, rfl, trivial⟩)))))))
    ·omega
    ·first
      | (rw [hacc, B3 hv, PW h58p]; rfl)
      | (rw [hacc, B3 hv, RN h58p])
    ·first | omega | (simp only [List.length_append, List.length_cons, List.length_nil]; omega)
  ·have h53p := (odf h53)
   refine C2 (AG (AG ?_))
   have hjE : j = m.els.length := by omega
   rw [hjE, List.take_length] at hacc
   refine B5 (A5 (A9 (A0 (yb rfl (ya rfl (CC (us := []) (vs := [pg g4]) rfl rfl rfl) (cp M 67 rfl (AE rfl rfl call75) (bO _ _ acc (by have := ho.nels; omega) 77 [pg g4] (SW m) _ (GO call77 (fun z _ w9 hf9 => o6 m L hL g4 g11 z w9 ((M.blk 1 rfl).fr0 hf9) ((M.mp 2 rfl).fr hf9 (fun hh => hh)))) (M.rdOwn 0 rfl)) fun w20 M => ?_))))))
   iterate 4 refine yb rfl ?_
   exact A4 (A5 (AF (CA rfl rfl rfl ⟨by rw [V3, ← hacc]; exact congrArg Ending.returned (wS _ _), M.fr⟩)))
end Go.Proofs.YtdaihdknnlphkaaGreatDoor
