/- The rules of the program: five: printed by gw/ru5.py. Condition: none. -/
import Derived.Test.YtadgfojhjnkliaaGreatDoorZRu4
set_option maxHeartbeats 16000000
set_option maxRecDepth 100000
namespace Go.Proofs.YtadgfojhjnkliaaGreatDoor
open Go.RowKit
section
variable {P : Program} {e : Env} {w : World} {o : Oper}
theorem V5 {t el n sz : Nat} (m : Nat) {x i : Operand} {cs : Array Value} {u : Value} (ho : o.op = .index t x i) (hx : ev e x = some (.agg cs)) (hi : ev e i = some (.int .i64 (m : Int))) (ht : EI P t = some (n, el, sz)) (hA : ∀ w, (isAgg el).run P w = .ok false w) (hm : m < n) (hu : cs[m * sz]? = some u) : Y P e o w u := fun ρ h => by
 unfold EI at ht
 split at ht
 ·rename_i el' n' hu'
  split at ht
  ·rename_i i' hi'
   simp only [Option.some.injEq, Prod.mk.injEq] at ht
   obtain ⟨rfl, rfl, rfl⟩ := ht
   have h1 : 0 ≤ (m : Int) := by omega
   unfold execOp
   simp [ho, h _ _ hx, h _ _ hi, Instr.index, asIntOf, run_underlying hu', h1, hm, sizeOf, typeInfo, hi', part, hA, hu]
  ·cases ht
 ·cases ht
end
theorem YQ (A : Option Addr) (c : Nat) (l : List (List UInt8)) (hl : l.length ≤ 4611686018427387904) (f : FuncId) (cs : List Value) (p : List UInt8 → Bool) (w : World) (hP : PredJ Tryz.prog f cs str l (fun _ => p) AB (fun _ _ => True) w) (hR : Rd w A (l.length * 1) (AS C7 l)) :
 Calls Tryz.prog 86 #[.slice A l.length c, .func (.func 87) #[] #[], .func (.func f) #[] cs.toArray] w fun e w' => e = .returned (.tuple #[str ((ffN (fun _ => p) 0 l).elim [] (fun x => x)), .bool (ffN (fun _ => p) 0 l).isSome]) ∧ Fr0 w w' :=
 (eF A c l hl f cs (fun _ => p) AB (fun _ _ => True) w hP (fun _ hf => hR.fr0 hf) trivial).mono fun _ _ ⟨h1, _, h2⟩ => ⟨h1, h2⟩
def cntK (t : Nat) (l : List El) (k : List UInt8) : Nat := (l.filter fun x => decide (x.inn = k) && decide (x.kind.toNat = t)).length
def X1 (l : List El) (k : List UInt8) : Value := .agg #[.int .i64 ((cntK 1 l k : Nat) : Int), .int .i64 ((cntK 2 l k : Nat) : Int)]
theorem kW (t : Nat) (l : List El) (k : List UInt8) : cntK t l k ≤ l.length := List.length_filter_le _ _
theorem TH (t : Nat) (l : List El) (i : Nat) (k : List UInt8) : cntK t (l.take i) k ≤ l.length := Nat.le_trans (kW _ _ _) (by rw [List.length_take]; omega)
theorem FQ (t : Nat) (l : List El) (x : El) (k : List UInt8) : cntK t (l ++ [x]) k = cntK t l k + (if x.inn = k ∧ x.kind.toNat = t then 1 else 0) := by
 unfold cntK
 rw [List.filter_append, List.length_append]
 congr 1
 by_cases h1 : x.inn = k <;> by_cases h2 : x.kind.toNat = t <;> simp [h1, h2]
section
variable {L : List (List UInt8 × Value)} {l l' : List El} {x : El} (hL : ∀ k, (CG L k).getD (.agg #[.int .i64 0, .int .i64 0]) = X1 l k) (hl : l' = l ++ [x])
include hL hl
theorem UU {a b : Nat} (ha : a = cntK 1 l' x.inn) (hb : b = cntK 2 l' x.inn) : ∀ k, (CG (CV L x.inn (.agg #[.int .i64 (a : Int), .int .i64 (b : Int)])) k).getD (.agg #[.int .i64 0, .int .i64 0]) = X1 l' k := fun k => by
 rw [FM]
 by_cases h : k = x.inn
 ·subst h; subst ha; subst hb; rw [if_pos rfl]; rfl
 ·rw [if_neg h, hL]
  unfold X1
  rw [hl, FQ, FQ, if_neg (fun z => h z.1.symm), if_neg (fun z => h z.1.symm)]; rfl
theorem NZ (h : (x.kind.toNat : Int) = 1) : ∀ k, (CG (CV L x.inn (.agg #[.int .i64 ((cntK 1 l x.inn + 1 : Nat) : Int), .int .i64 ((cntK 2 l x.inn : Nat) : Int)])) k).getD (.agg #[.int .i64 0, .int .i64 0]) = X1 l' k :=
 UU hL hl (by rw [hl, FQ, if_pos ⟨rfl, by omega⟩]) (by rw [hl, FQ, if_neg (fun z => by omega)]; rfl)
theorem UT (_h1 : ¬ (x.kind.toNat : Int) = 1) (h : (x.kind.toNat : Int) = 2) : ∀ k, (CG (CV L x.inn (.agg #[.int .i64 ((cntK 1 l x.inn : Nat) : Int), .int .i64 ((cntK 2 l x.inn + 1 : Nat) : Int)])) k).getD (.agg #[.int .i64 0, .int .i64 0]) = X1 l' k :=
 UU hL hl (by rw [hl, FQ, if_neg (fun z => by omega)]; rfl) (by rw [hl, FQ, if_pos ⟨rfl, by omega⟩])
theorem RK (h1 : ¬ (x.kind.toNat : Int) = 1) (h : ¬ (x.kind.toNat : Int) = 2) : ∀ k, (CG (CV L x.inn (.agg #[.int .i64 ((cntK 1 l x.inn : Nat) : Int), .int .i64 ((cntK 2 l x.inn : Nat) : Int)])) k).getD (.agg #[.int .i64 0, .int .i64 0]) = X1 l' k :=
 UU hL hl (by rw [hl, FQ, if_neg (fun z => by omega)]; rfl) (by rw [hl, FQ, if_neg (fun z => by omega)]; rfl)
end
def IQ (l : List El) : List (List UInt8) := (l.filter fun x => decide (x.kind.toNat = 10)).map (·.id)
theorem OF {l : List El} {x : El} (h : (x.kind.toNat : Int) = 10) : IQ (l ++ [x]) = IQ l ++ [x.id] := by
 unfold IQ
 rw [List.filter_append, List.map_append]
 simp [show x.kind.toNat = 10 by omega]
theorem Q4 {l : List El} {x : El} (h : ¬ (x.kind.toNat : Int) = 10) : IQ (l ++ [x]) = IQ l := by
 unfold IQ
 rw [List.filter_append]
 simp [show ¬ x.kind.toNat = 10 by omega]
def jT (m : Md) (k : List UInt8) : Bool := (decide (((cntK 1 m.els k : Nat) : Int) = (1 : Int))) && (decide ((1 : Int) ≤ ((cntK 2 m.els k : Nat) : Int)))
def ffS (p : List UInt8 → Bool) (l : List (List UInt8)) : Option (List UInt8) := ffN (fun _ => p) 0 l
theorem rV (p : List UInt8 → Bool) (l : List (List UInt8)) : Value.tuple #[str ((ffN (fun _ => p) 0 l).elim [] (fun x => x)), .bool (ffN (fun _ => p) 0 l).isSome] = IU (ffS p l) := by unfold IU ffS; cases ffN (fun _ => p) 0 l <;> rfl
def jS (m : Md) : Option (List UInt8) := ffS (jT m) ([] :: IQ m.els)
theorem M7 : (Tryz.prog.info? 150).map (·.size) = some 2 := by kernel_rfl
theorem KQ : (Tryz.prog.info? 149).map (·.size) = some 1 := by kernel_rfl
theorem LX : (Tryz.prog.info? 150).map (·.zero) = some (some (.agg #[.int .i64 0, .int .i64 0])) := by kernel_rfl
theorem KP : (Tryz.prog.info? 149).map (·.zero) = some (some (.map none)) := by kernel_rfl
theorem jU (m : Md) (L : List (List UInt8 × Value)) (hL : ∀ k, (CG L k).getD (.agg #[.int .i64 0, .int .i64 0]) = X1 m.els k) (g4 g11 : Nat) (k : List UInt8) (w : World) (hp : Blk w g4 149 [.map (some g11)]) (hm : Mp w g11 L) :
 Calls Tryz.prog 88 #[str k, .pointer (some ⟨g4, 0, none⟩)] w fun e w' => e = .returned (.bool (jT m k)) ∧ Fr0 w w' := by
 refine AL (vs := [_, _]) Tryz.func88 rfl Tryz.ntmps88 rfl ?_
 have M := CM w
 refine A9 (A0 (yb rfl (A1 (A2 (A9 (A0 (yl rfl rfl (Blk.c (hp.fr0 M.fr) 0 rfl) (yb rfl (ya rfl (C5 rfl rfl rfl Tryz.underlying149 Tryz.underlying9 LX (hm.fr M.fr (fun hh => hh)) (hL _)) (ya rfl (V5 (m := 0) rfl rfl rfl (ar rfl) Tryz.isAgg3 (by decide) rfl) (ya rfl (BC rfl rfl rfl) (yb rfl (AV 6 [(3, .bool false), (15, .bool ((decide (((cntK 1 m.els k : Nat) : Int) = (1 : Int))) && (decide ((1 : Int) ≤ ((cntK 2 m.els k : Nat) : Int)))))] (fun w' => Mem w AB [] w') ?_ (fun k9 => ?_))))))))))))))
 ·intro w1 M
  exact yb rfl (A1 (A2 (AE (AI rfl rfl ⟨rfl, M.fr⟩))))
 refine AF (d := 9) (b := (decide (((cntK 1 m.els k : Nat) : Int) = (1 : Int)))) rfl (fun h9 => ?_) (fun h9 => ?_)
 ·exact ym rfl rfl (Blk.c (hp.fr0 M.fr) 0 rfl) (yd rfl (yp rfl) (yd rfl (C5 rfl rfl rfl Tryz.underlying149 Tryz.underlying9 LX (hm.fr M.fr (fun hh => hh)) (hL _)) (yd rfl (V5 (m := 1) rfl rfl rfl (ar rfl) Tryz.isAgg3 (by decide) rfl) (yd rfl (EP rfl rfl rfl) (yb rfl (k9 _ _ M ⟨rfl, (by rw [h9]; rfl), trivial⟩))))))
 ·iterate 5 refine yo rfl ?_
  exact yb rfl (k9 _ _ M ⟨rfl, (by rw [h9]; rfl), trivial⟩)
theorem jR (m : Md) (a : MdA) (ix : IxA) (gx : Nat) (w : World) (ho : MdOk m) (hx : IxAt w m a ix gx) :
 Calls Tryz.prog 35 #[.pointer (some ⟨gx, 0, none⟩)] w fun e w' => e = .returned (IU (jS m)) ∧ Fr0 w w' := by
 have hne := ho.nels
 refine AL (vs := [_]) Tryz.func35 rfl Tryz.ntmps35 rfl ?_
 have M := CM w
 refine A9 (A0 (yb rfl (yb rfl (A1 (A2 (A9 (A0 (HM M (A4 rfl) rfl rfl rfl fun g11 w1 hg11 M => BL M (A4 rfl) rfl rfl 149 rfl [.map none] KP rfl fun g4 w2 hg4 M => BU (cs' := [.map (some g11)]) M 0 (A4 rfl) rfl rfl rfl rfl rfl rfl rfl KQ (B5 rfl) rfl fun w3 M => A1 (A2 ?_)))))))))
 refine A9 (A9 (A0 ?_))
 iterate 4 refine yb rfl ?_
 refine yl rfl rfl (Blk.c ((hx.fr0 M.fr).blk) 3 rfl) (ya rfl (CY rfl rfl (sl rfl)) (yb rfl (A1 (A2 (AZ (CO (fun e wr mz => ∃ (i : Nat) (L : List (List UInt8 × Value)), e = [(0, .pointer (some ⟨gx, 0, none⟩)), (4, .pointer (some ⟨g4, 0, none⟩)), (16, .slice a.E m.els.length a.ec), (17, .int .i64 ((m.els.length : Nat) : Int)), (18, .int .i64 ((i : Nat) : Int))] ∧ Mem w AB [As.blk g4 149 [.map (some g11)], As.mp g11 L] wr ∧ (i ≤ m.els.length) ∧ (∀ k, (CG L k).getD (.agg #[.int .i64 0, .int .i64 0]) = X1 (m.els.take i) k) ∧ mz = m.els.length - i) ⟨0, [], rfl, M, Nat.zero_le _, fun _ => rfl, rfl⟩ ⟨rfl, rfl, rfl, rfl, rfl, trivial⟩ ?_))))))
 rintro _ w4 _ ⟨i, L, rfl, M, hi, hL, rfl⟩
 refine A9 (A0 (ya rfl (CJ rfl rfl rfl) (A1 (A2 (A9 (AR (b := (decide (((i : Nat) : Int) < ((m.els.length : Nat) : Int)))) rfl (fun h19 => ?_) (fun h19 => ?_)))))))
 ·have h19p := (of_decide_eq_true h19)
  refine AM (A2 (A9 (AZ (A9 (A0 ?_)))))
  obtain ⟨u, hu⟩ := DY (l := m.els) (i := i) (by omega)
  obtain ⟨b_u, o_u, hA_u⟩ := CN (k := 11) (by omega) (M.rd hx.md.els) hu
  refine ya rfl (BZ i hA_u rfl rfl rfl (sl rfl) (by omega)) (ya rfl (AO rfl rfl (DK El.len (M.rd hx.md.els) hA_u hu) Tryz.underlying62 rfl AY) (BL M (A4 rfl) rfl rfl 62 rfl [str [], str [], .int .u8 0, str [], str [], str [], .int .u8 0, str [], str [], .int .i64 0, .int .i64 0] B4 rfl fun g6 w5 hg6 M => B8 (cs' := (El.cells u)) M 0 (A4 rfl) rfl rfl rfl rfl rfl AY rfl (AQ rfl) (B3 rfl) rfl fun w6 M => A1 (A2 (A9 (A0 (yl rfl rfl (M.cell 1 rfl rfl) (yb rfl (yl rfl rfl (M.cell 0 rfl rfl) (ya rfl (C5 rfl rfl rfl Tryz.underlying149 Tryz.underlying9 LX (M.mp 2 rfl) (hL _)) (BL M (A4 rfl) rfl rfl 150 rfl [.int .i64 0, .int .i64 0] LX rfl fun g7 w7 hg7 M => ?_))))))))))
  refine B8 (cs' := [.int .i64 ((cntK 1 (m.els.take i) u.inn : Nat) : Int), .int .i64 ((cntK 2 (m.els.take i) u.inn : Nat) : Int)]) M 0 (A4 rfl) rfl rfl rfl rfl rfl M7 rfl (AQ rfl) (B3 rfl) rfl fun w8 M => A1 (A2 (A9 (A9 (A0 (yb rfl (yl rfl rfl (M.cell 1 rfl rfl) (A1 (A2 (AZ (A9 (A0 (ya rfl (BC rfl rfl rfl) (yb rfl ?_)))))))))))))
  refine A1 (A2 (AR (b := (decide ((u.kind.toNat : Int) = (1 : Int)))) rfl (fun h28 => ?_) (fun h28 => ?_)))
  ·have h28p := (of_decide_eq_true h28)
   have hc1 := TH 1 m.els i u.inn
   refine A0 (ya rfl (GT rfl rfl rfl (ar rfl) (by omega)) (yl rfl rfl (M.cell 0 rfl rfl) (ya rfl (CQ rfl rfl rfl (by omega)) (ya rfl (GT rfl rfl rfl (ar rfl) (by omega)) (BU (cs' := [.int .i64 (((cntK 1 (m.els.take i) u.inn) + 1 : Nat) : Int), .int .i64 ((cntK 2 (m.els.take i) u.inn : Nat) : Int)]) M 0 (A4 rfl) rfl rfl rfl rfl rfl rfl rfl FT (B5 rfl) rfl fun w9 M => A1 (AD (A2 (A0 (yl rfl rfl (M.cell 2 rfl rfl) (yb rfl (yl rfl rfl (M.cell 1 rfl rfl) (ya rfl (AO (xs := [.int .i64 (((cntK 1 (m.els.take i) u.inn) + 1 : Nat) : Int), .int .i64 ((cntK 2 (m.els.take i) u.inn : Nat) : Int)]) rfl rfl (M.rdBlk 0 rfl rfl) Tryz.underlying150 rfl M7) (ES M 3 (A4 rfl) rfl rfl rfl rfl rfl Tryz.underlying149 Tryz.underlying9 rfl ?_)))))))))))))
   intro w10 M
   refine A1 (AD (A2 (A0 (ya rfl (CQ rfl rfl rfl (by omega)) (yb rfl (A1 (BP [(0, .pointer (some ⟨gx, 0, none⟩)), (4, .pointer (some ⟨g4, 0, none⟩)), (16, .slice a.E m.els.length a.ec), (17, .int .i64 ((m.els.length : Nat) : Int)), (18, .int .i64 (((i + 1) : Nat) : Int))] (m.els.length - (i + 1)) ⟨i + 1, CV L u.inn (.agg #[.int .i64 (((cntK 1 (m.els.take i) u.inn) + 1 : Nat) : Int), .int .i64 ((cntK 2 (m.els.take i) u.inn : Nat) : Int)]), rfl, (M.pick [2, 3] (by decide)), ?_, ?_, rfl⟩ (by first | omega | (simp only [List.length_append, List.length_cons, List.length_nil]; omega)) ⟨rfl, rfl, rfl, rfl, rfl, trivial⟩)))))))
   ·omega
   ·first
     | exact NZ hL (BK hu) h28p
     | exact UT hL (BK hu) h28p h34p
     | exact RK hL (BK hu) h28p h34p
  ·have h28p := (of_decide_eq_false h28)
   refine A9 (A0 (ya rfl (BC rfl rfl rfl) (yb rfl (A1 (A2 (AR (b := (decide ((u.kind.toNat : Int) = (2 : Int)))) rfl (fun h34 => ?_) (fun h34 => ?_)))))))
   ·have h34p := (of_decide_eq_true h34)
    have hc2 := TH 2 m.els i u.inn
    refine A0 (ya rfl (GT rfl rfl rfl (ar rfl) (by omega)) (yl rfl rfl (M.cell 0 rfl rfl) (ya rfl (CQ rfl rfl rfl (by omega)) (ya rfl (GT rfl rfl rfl (ar rfl) (by omega)) (BU (cs' := [.int .i64 ((cntK 1 (m.els.take i) u.inn : Nat) : Int), .int .i64 (((cntK 2 (m.els.take i) u.inn) + 1 : Nat) : Int)]) M 0 (A4 rfl) rfl rfl rfl rfl rfl rfl rfl FT (B5 rfl) rfl fun w11 M => A1 (AD (A2 (A0 (yl rfl rfl (M.cell 2 rfl rfl) (yb rfl (yl rfl rfl (M.cell 1 rfl rfl) (ya rfl (AO (xs := [.int .i64 ((cntK 1 (m.els.take i) u.inn : Nat) : Int), .int .i64 (((cntK 2 (m.els.take i) u.inn) + 1 : Nat) : Int)]) rfl rfl (M.rdBlk 0 rfl rfl) Tryz.underlying150 rfl M7) (ES M 3 (A4 rfl) rfl rfl rfl rfl rfl Tryz.underlying149 Tryz.underlying9 rfl ?_)))))))))))))
    intro w12 M
    refine A1 (AD (A2 (A0 (ya rfl (CQ rfl rfl rfl (by omega)) (yb rfl (A1 (BP [(0, .pointer (some ⟨gx, 0, none⟩)), (4, .pointer (some ⟨g4, 0, none⟩)), (16, .slice a.E m.els.length a.ec), (17, .int .i64 ((m.els.length : Nat) : Int)), (18, .int .i64 (((i + 1) : Nat) : Int))] (m.els.length - (i + 1)) ⟨i + 1, CV L u.inn (.agg #[.int .i64 ((cntK 1 (m.els.take i) u.inn : Nat) : Int), .int .i64 (((cntK 2 (m.els.take i) u.inn) + 1 : Nat) : Int)]), rfl, (M.pick [2, 3] (by decide)), ?_, ?_, rfl⟩ (by first | omega | (simp only [List.length_append, List.length_cons, List.length_nil]; omega)) ⟨rfl, rfl, rfl, rfl, rfl, trivial⟩)))))))
    ·omega
    ·first
      | exact NZ hL (BK hu) h28p
      | exact UT hL (BK hu) h28p h34p
      | exact RK hL (BK hu) h28p h34p
   ·have h34p := (of_decide_eq_false h34)
    refine AM (AD (A2 (A0 (yl rfl rfl (M.cell 2 rfl rfl) (yb rfl (yl rfl rfl (M.cell 1 rfl rfl) (ya rfl (AO (xs := [.int .i64 ((cntK 1 (m.els.take i) u.inn : Nat) : Int), .int .i64 ((cntK 2 (m.els.take i) u.inn : Nat) : Int)]) rfl rfl (M.rdBlk 0 rfl rfl) Tryz.underlying150 rfl M7) (ES M 3 (A4 rfl) rfl rfl rfl rfl rfl Tryz.underlying149 Tryz.underlying9 rfl fun w13 M => A1 (AD (A2 (A0 (ya rfl (CQ rfl rfl rfl (by omega)) (yb rfl ?_)))))))))))))
    refine A1 (BP [(0, .pointer (some ⟨gx, 0, none⟩)), (4, .pointer (some ⟨g4, 0, none⟩)), (16, .slice a.E m.els.length a.ec), (17, .int .i64 ((m.els.length : Nat) : Int)), (18, .int .i64 (((i + 1) : Nat) : Int))] (m.els.length - (i + 1)) ⟨i + 1, CV L u.inn (.agg #[.int .i64 ((cntK 1 (m.els.take i) u.inn : Nat) : Int), .int .i64 ((cntK 2 (m.els.take i) u.inn : Nat) : Int)]), rfl, (M.pick [2, 3] (by decide)), ?_, ?_, rfl⟩ (by first | omega | (simp only [List.length_append, List.length_cons, List.length_nil]; omega)) ⟨rfl, rfl, rfl, rfl, rfl, trivial⟩)
    ·omega
    ·first
      | exact NZ hL (BK hu) h28p
      | exact UT hL (BK hu) h28p h34p
      | exact RK hL (BK hu) h28p h34p
 ·have h19p := (of_decide_eq_false h19)
  refine CF (AJ (AJ ?_))
  have hiE : i = m.els.length := by omega
  rw [hiE, List.take_length] at hL
  refine BE (A2 (A9 (A0 (F1 M (A4 rfl) rfl rfl [str []] ([str []]) rfl rfl rfl rfl Tryz.underlying45 D5 rfl rfl (by intro v hv; simp only [List.mem_cons, List.not_mem_nil, or_false] at hv; rcases hv with rfl <;> rfl) rfl fun g45 w14 hg45 M => yb rfl (A1 (A2 (A9 (A9 (A0 ?_)))))))))
  iterate 4 refine yb rfl ?_
  refine yl rfl rfl (Blk.c ((hx.fr0 M.fr).blk) 3 rfl) (ya rfl (CY rfl rfl (sl rfl)) (yb rfl (A1 (A2 (AZ ?_)))))
  have M := M.blkOwn 0 (size := 1) (n := 1) rfl rfl (by unfold maxLen; omega)
  refine CO (fun e wr mz => ∃ (j : Nat) (acc : List (List UInt8)) (A : Option Addr) (c : Nat), e = [(4, .pointer (some ⟨g4, 0, none⟩)), (8, .slice A acc.length c), (50, .slice a.E m.els.length a.ec), (51, .int .i64 ((m.els.length : Nat) : Int)), (52, .int .i64 ((j : Nat) : Int))] ∧ Mem w AB [As.own w.heap.size 9 1 (.slice A acc.length c) acc.length (AS C7 acc), As.blk g4 149 [.map (some g11)], As.mp g11 L] wr ∧ (j ≤ m.els.length) ∧ (acc = [] :: IQ (m.els.take j)) ∧ (acc.length ≤ j + 1) ∧ mz = m.els.length - j) ⟨0, [[]], some ⟨g45, 0, none⟩, 1, rfl, M, Nat.zero_le _, rfl, Nat.le_refl _, rfl⟩ ⟨rfl, rfl, rfl, rfl, rfl, trivial⟩ ?_
  rintro _ w15 _ ⟨j, acc, A, c, rfl, M, hj, hacc, hal, rfl⟩
  refine A9 (A0 (ya rfl (CJ rfl rfl rfl) (A1 (A2 (A9 (AR (b := (decide (((j : Nat) : Int) < ((m.els.length : Nat) : Int)))) rfl (fun h53 => ?_) (fun h53 => ?_)))))))
  ·have h53p := (of_decide_eq_true h53)
   refine AM (A2 (A9 (AZ (A9 (A0 ?_)))))
   obtain ⟨v, hv⟩ := DY (l := m.els) (i := j) (by omega)
   obtain ⟨b_v, o_v, hA_v⟩ := CN (k := 11) (by omega) (M.rd hx.md.els) hv
   refine ya rfl (BZ j hA_v rfl rfl rfl (sl rfl) (by omega)) (ya rfl (AO rfl rfl (DK El.len (M.rd hx.md.els) hA_v hv) Tryz.underlying62 rfl AY) (BL M (A4 rfl) rfl rfl 62 rfl [str [], str [], .int .u8 0, str [], str [], str [], .int .u8 0, str [], str [], .int .i64 0, .int .i64 0] B4 rfl fun g10 w16 hg10 M => B8 (cs' := (El.cells v)) M 0 (A4 rfl) rfl rfl rfl rfl rfl AY rfl (AQ rfl) (B3 rfl) rfl fun w17 M => A1 (A2 (A9 (A0 (yb rfl (yl rfl rfl (M.cell 0 rfl rfl) (ya rfl (BC rfl rfl rfl) (A1 (A2 (AR (b := (decide ((v.kind.toNat : Int) = (10 : Int)))) rfl (fun h58 => ?_) (fun h58 => ?_))))))))))))
   ·have h58p := (of_decide_eq_true h58)
    refine A0 (yb rfl (yb rfl (yl rfl rfl (M.cell 0 rfl rfl) (F1 M (A4 rfl) rfl rfl [str v.id] ([str v.id]) rfl rfl rfl rfl Tryz.underlying45 D5 rfl rfl (by intro v hv; simp only [List.mem_cons, List.not_mem_nil, or_false] at hv; rcases hv with rfl <;> rfl) rfl fun g62 w18 hg62 M => EQ (len' := (acc ++ [v.id]).length) (xs' := AS C7 (acc ++ [v.id])) M 2 (A4 rfl) rfl rfl rfl rfl rfl rfl (M.rdBlk 0 rfl rfl) Tryz.underlying45 CU rfl (by decide) (B3 rfl) (Nat.le_refl _) (Nat.le_refl _) (by first | omega | (simp only [List.length_append, List.length_cons, List.length_nil]; omega)) (by unfold maxLen; first | omega | (simp only [List.length_append, List.length_cons, List.length_nil]; omega)) (by simp) (by simp [AS, C7]) fun A63 c63 w19 M => yb rfl (A1 (AD (A2 (A0 (ya rfl (CQ rfl rfl rfl (by omega)) (yb rfl (A1 ?_)))))))))))
    refine BP [(4, .pointer (some ⟨g4, 0, none⟩)), (8, .slice A63 (acc ++ [v.id]).length c63), (50, .slice a.E m.els.length a.ec), (51, .int .i64 ((m.els.length : Nat) : Int)), (52, .int .i64 (((j + 1) : Nat) : Int))] (m.els.length - (j + 1)) ⟨j + 1, acc ++ [v.id], A63, c63, rfl, (M.pick [2, 3, 4] (by decide)), ?_, ?_, ?_, rfl⟩ (by first | omega | (simp only [List.length_append, List.length_cons, List.length_nil]; omega)) ⟨rfl, rfl, rfl, rfl, rfl, trivial⟩
    ·omega
    ·first
      | (rw [hacc, BK hv, OF h58p]; rfl)
      | (rw [hacc, BK hv, Q4 h58p])
    ·first | omega | (simp only [List.length_append, List.length_cons, List.length_nil]; omega)
   ·have h58p := (of_decide_eq_false h58)
    refine AM (AD (A2 (A0 (ya rfl (CQ rfl rfl rfl (by omega)) (yb rfl (A1 (BP [(4, .pointer (some ⟨g4, 0, none⟩)), (8, .slice A acc.length c), (50, .slice a.E m.els.length a.ec), (51, .int .i64 ((m.els.length : Nat) : Int)), (52, .int .i64 (((j + 1) : Nat) : Int))] (m.els.length - (j + 1)) ⟨j + 1, acc, A, c, rfl, (M.pick [1, 2, 3] (by decide)), ?_, ?_, ?_, rfl⟩ (by first | omega | (simp only [List.length_append, List.length_cons, List.length_nil]; omega)) ⟨rfl, rfl, rfl, rfl, rfl, trivial⟩)))))))
    ·omega
    ·first
      | (rw [hacc, BK hv, OF h58p]; rfl)
      | (rw [hacc, BK hv, Q4 h58p])
    ·first | omega | (simp only [List.length_append, List.length_cons, List.length_nil]; omega)
  ·have h53p := (of_decide_eq_false h53)
   refine CF (AJ (AJ ?_))
   have hjE : j = m.els.length := by omega
   rw [hjE, List.take_length] at hacc
   refine BE (A2 (A9 (A0 (yb rfl (ya rfl (CT (us := []) (vs := [.pointer (some ⟨g4, 0, none⟩)]) rfl rfl rfl) (AC (some 67) (A4 rfl) rfl rfl (AG rfl rfl Tryz.call86) (YQ _ _ acc (by have := ho.nels; omega) 88 [.pointer (some ⟨g4, 0, none⟩)] (jT m) _ (GE Tryz.call88 (fun z _ w9 hf9 => jU m L hL g4 g11 z w9 ((M.blk 1 rfl).fr0 hf9) ((M.mp 2 rfl).fr hf9 (fun hh => hh)))) (M.rdOwn 0 rfl)) ?_))))))
   rintro _ w20 ⟨rfl, hfw20⟩
   refine ⟨_, rfl, ?_⟩
   have M := M.step hfw20
   iterate 4 refine yb rfl ?_
   exact A1 (A2 (AE (C1 rfl rfl rfl ⟨by rw [jS, ← hacc]; exact congrArg Ending.returned (rV _ _), M.fr⟩)))
end Go.Proofs.YtadgfojhjnkliaaGreatDoor
