/- The lexer of conditions: number, text: printed by gw/ex3.py. Conditions: the tables of unicode/utf8 and the errors of strconv are as they are laid. -/
import Derived.Test.YtadgfojhjnkliaaGreatDoorZb6
import Derived.Test.YtadgfojhjnkliaaGreatDoorZb5
import Derived.Test.YtadgfojhjnkliaaGreatDoorZb3
import Derived.Lib.Builder
import Derived.Laws.Externs
import Derived.Shelf.Strings.BuilderF
import Derived.Shelf.Strings.Trim
import Derived.Shelf.Strings.FuncGrows
import Derived.Shelf.Strconv.ParseIntPublic10
import Derived.Test.YtadgfojhjnkliaaGreatDoorProg
set_option maxHeartbeats 16000000
set_option maxRecDepth 100000
namespace Go.Proofs.YtadgfojhjnkliaaGreatDoor
open Go.RowKit
def tabN (n : Nat) : Nat := if (decide (65 ≤ n) && decide (n ≤ 90)) || (decide (97 ≤ n) && decide (n ≤ 122)) then 2 else if ((decide (48 ≤ n) && decide (n ≤ 57)) || n == 45 || n == 95 || n == 46) then 1 else 0
def tabL : List Value := (List.range 256).map fun n => .int .u8 (tabN n : Int)
theorem mI : mJ = .agg tabL.toArray := by kernel_rfl
theorem PU : tabL.length = 256 := by unfold tabL; simp
theorem fX : ∀ u ∈ tabL, u.oneCell' = true := by
 intro u hu
 obtain ⟨n, _, rfl⟩ := List.mem_map.1 hu
 rfl
theorem mK {n : Nat} (h : n < 256) : tabL[n]? = some (.int .u8 (tabN n : Int)) := by unfold tabL; simp [h]
theorem ZM (c : UInt8) : tabN c.toNat = if EW c then 2 else if K6 c then 1 else 0 := by
 have h1 : (((decide (65 ≤ c.toNat) && decide (c.toNat ≤ 90)) || (decide (97 ≤ c.toNat) && decide (c.toNat ≤ 122))) = EW c) := by
  unfold EW; rw [Bool.or_comm]
 unfold tabN
 rw [h1]
 rfl
def zeroT : List Value := List.replicate 256 (.int .u8 0)
theorem XP : (Tryz.prog.info? 175).map (·.zero) = some (some (.agg zeroT.toArray)) := by kernel_rfl
theorem XQ : (Tryz.prog.info? 175).map (·.size) = some 256 := by kernel_rfl
def G7 (l : List UInt8) : Bool := l.all fun c => EW c || K6 c
theorem MK : ∀ (i : Nat) (l : List UInt8), i ≠ 0 → I8 i l = G7 l
 | _, [], _ => rfl
 | i, c :: l, h => by
  rw [I8, MK (i + 1) l (by omega), show (i != 0) = true by simp [h], Bool.and_true]
  rfl
theorem S4 (c : UInt8) (l : List UInt8) : I8 0 (c :: l) = (EW c && G7 (c :: l)) := by
 rw [I8, MK 1 l (by omega)]
 show ((EW c || (K6 c && (0 != 0))) && G7 l) = (EW c && ((EW c || K6 c) && G7 l))
 cases EW c <;> cases K6 c <;> simp
theorem SC : zeroT.length = 256 := by unfold zeroT; rw [List.length_replicate]
theorem DV (l : List UInt8) (w : World) (hm : (l.length : Int) < 4611686018427387904) : Calls Tryz.prog 68 #[str l] w fun e w' => e = .returned (.bool (BX l)) ∧ Fr0 w w' := by
 refine AL (vs := [_]) Tryz.func68 rfl Tryz.ntmps68 rfl ?_
 by_cases h0 : l.length = 0
 ·have hno : BX l = false := by unfold BX; simp; omega
  refine A9 (A0 (yb rfl (A1 (A2 (A9 (A9 (A0 (yb rfl (ya rfl (EO rfl rfl Tryz.underlying9) (ya rfl (KG rfl rfl rfl (by omega)) (yb rfl (yo rfl (yo rfl (yo rfl (yb rfl ?_)))))))))))))))
  exact A1 (A2 (DQ rfl (A9 (A0 (yb rfl (A1 (A2 (AE (AA (AI rfl rfl ⟨by rw [hno], Fr.refl⟩))))))))))
 by_cases h1 : 32 < l.length
 ·have hno : BX l = false := by unfold BX; simp; omega
  refine A9 (A0 (yb rfl (A1 (A2 (A9 (A9 (A0 (yb rfl (ya rfl (EO rfl rfl Tryz.underlying9) (ya rfl (GO rfl rfl rfl (by omega)) (yb rfl (yd rfl (yp rfl) (yd rfl (EO rfl rfl Tryz.underlying9) (yd rfl (lS rfl rfl rfl (by omega)) (yb rfl ?_)))))))))))))))
  exact A1 (A2 (DQ rfl (A9 (A0 (yb rfl (A1 (A2 (AE (AA (AI rfl rfl ⟨by rw [hno], Fr.refl⟩))))))))))
 obtain ⟨c0, r0, hl⟩ : ∃ c0 r0, l = c0 :: r0 := List.exists_cons_of_ne_nil (by intro e; rw [e] at h0; exact h0 rfl)
 have hno : BX l = (EW c0 && G7 l) := by
  have : I8 0 l = (EW c0 && G7 l) := by rw [hl]; exact S4 c0 r0
  unfold BX; rw [this]; simp [show 1 ≤ l.length by omega, show l.length ≤ 32 by omega]
 have hc0 : l[0]? = some c0 := by rw [hl]; rfl
 refine A9 (A0 (yb rfl (A1 (A2 (A9 (A9 (A0 (yb rfl (ya rfl (EO rfl rfl Tryz.underlying9) (ya rfl (GO rfl rfl rfl (by omega)) (yb rfl (yd rfl (yp rfl) (yd rfl (EO rfl rfl Tryz.underlying9) (yd rfl (lT rfl rfl rfl (by omega)) (yb rfl ?_)))))))))))))))
 refine A1 (A2 (DB rfl (AM (A2 (A9 (A0 (AC (some 13) (by first | exact A4 rfl | exact BA rfl rfl rfl) rfl rfl (AG rfl rfl Tryz.call125) (cL _) ?_)))))))
 rintro _ w1 ⟨rfl, hf1⟩
 refine ⟨_, rfl, CK (some 3) (A4 rfl) rfl rfl (fun ρ hρ => C0 175 rfl _ zeroT XP rfl) ?_⟩
 rintro _ w2 ⟨g, rfl, hg1, hg2, hb, hf2⟩
 refine CK none (A4 rfl) rfl rfl (fun ρ hρ => BT 175 (.tmp 3) (.tmp 13) rfl g 0 175 _ tabL (hρ _ _ rfl) ((hρ _ _ rfl).trans mI) hb (by rw [PU]; exact XQ) (by rw [PU, SC]; omega) fX) ?_
 rintro _ w3 ⟨rfl, hb3, hf3⟩
 rw [P9 zeroT tabL (by rw [PU, SC])] at hb3
 have hf : Fr0 w w3 := (hf1.trans hf2).step hf3 (fun k hk e => by have := hf1.size; omega)
 refine A1 (A2 (A9 (A9 (A0 (yb rfl (ya rfl (EO rfl rfl Tryz.underlying9) (yb rfl (A1 (A2 (AZ ?_))))))))))
 have tcell : ∀ c : UInt8, Cell w3.heap g (0 + ((c.toNat : Int)).toNat * 1) (.int .u8 (tabN c.toNat : Int)) := fun c => by
  have := hb3.c c.toNat (mK c.toNat_lt)
  simpa using this
 refine CO (fun e wr m => ∃ (i : Nat), e = [(16, .int .i64 (i : Int)), (15, .int .i64 (l.length : Int)), (3, .pointer (some ⟨g, 0, none⟩)), (0, str l)] ∧ w3 = wr ∧ i ≤ l.length ∧ G7 (l.take i) = true ∧ m = l.length - i) ⟨0, rfl, rfl, Nat.zero_le _, rfl, rfl⟩ ⟨rfl, rfl, rfl, rfl, trivial⟩ ?_
 rintro _ _ _ ⟨i, rfl, rfl, hi, hok, rfl⟩
 by_cases hlt : i < l.length
 ·obtain ⟨c, hc⟩ : ∃ c, l[i]? = some c := ⟨_, List.getElem?_eq_getElem hlt⟩
  have h256 := c.toNat_lt
  have ct := tcell c
  have hsplit : l = l.take i ++ c :: l.drop (i + 1) := by
   have h1 : l.drop i = c :: l.drop (i + 1) := by
    rw [List.drop_eq_getElem_cons hlt]
    congr 1
    rw [List.getElem?_eq_getElem hlt] at hc
    exact Option.some.inj hc
   rw [← h1, List.take_append_drop]
  have htab := ZM c
  by_cases hz : tabN c.toNat = 0
  ·have hbad : G7 l = false := by
    rw [hz] at htab
    have h3 : EW c = false := by cases hq : EW c with | false => rfl | true => rw [hq] at htab; simp at htab
    have h4 : K6 c = false := by cases hq : K6 c with | false => rfl | true => rw [h3, hq] at htab; simp at htab
    rw [hsplit]; unfold G7; simp [h3, h4]
   refine A9 (A0 (ya rfl (ZB rfl rfl rfl (by omega)) (A1 (A2 (A9 (DQ rfl (AM (A2 (A9 (AZ (A9 (A0 (yb rfl (yb rfl (A1 ?_)))))))))))))))
   refine A2 (A9 (A0 (yb rfl (yb rfl (ya rfl (F5 rfl rfl rfl Tryz.underlying9 hc) (ya rfl (GT rfl rfl rfl (ar rfl) (by omega)) (yl rfl rfl (by assumption) (ya rfl (KG rfl rfl rfl (by omega)) (A1 (A2 (DQ rfl (A9 (A0 (yb rfl (A1 ?_)))))))))))))))
   exact A2 (AE (AK (AA (AA (AK (AA (AI rfl rfl ⟨by rw [hno, hbad, Bool.and_false], hf⟩)))))))
  ·have hstep : G7 (l.take (i + 1)) = true := by
    have h3 : (EW c || K6 c) = true := by
     cases hq : EW c with
     | true => rfl
     | false => cases hq2 : K6 c with
      | true => rfl
      | false => rw [hq, hq2] at htab; simp at htab; omega
    rw [List.take_add_one, hc]
    unfold G7 at hok ⊢
    rw [List.all_append, hok]
    simpa using h3
   refine A9 (A0 (ya rfl (ZB rfl rfl rfl (by omega)) (A1 (A2 (A9 (DQ rfl (AM (A2 (A9 (AZ (A9 (A0 (yb rfl (yb rfl (A1 ?_)))))))))))))))
   refine A2 (A9 (A0 (yb rfl (yb rfl (ya rfl (F5 rfl rfl rfl Tryz.underlying9 hc) (ya rfl (GT rfl rfl rfl (ar rfl) (by omega)) (yl rfl rfl (by assumption) (ya rfl (GO rfl rfl rfl (by omega)) (A1 (A2 (DB rfl (AM (AD (A2 (A0 ?_)))))))))))))))
   exact ya rfl (CQ rfl rfl rfl (by omega)) (yb rfl (A1 (BP [(16, .int .i64 ((i + 1 : Nat) : Int)), (15, .int .i64 (l.length : Int)), (3, .pointer (some ⟨g, 0, none⟩)), (0, str l)] (l.length - (i + 1)) ⟨i + 1, rfl, rfl, by omega, hstep, rfl⟩ (by omega) ⟨rfl, rfl, rfl, rfl, trivial⟩)))
 ·obtain rfl : i = l.length := by omega
  rw [List.take_length] at hok
  have h256 := c0.toNat_lt
  have ct := tcell c0
  have htab := ZM c0
  cases hlet : EW c0 with
  | true =>
   rw [hlet] at htab
   have h2 : tabN c0.toNat = 2 := htab
   refine A9 (A0 (ya rfl (ZC rfl rfl rfl (by omega)) (A1 (A2 (A9 (DB rfl (CF (AJ (AJ (BE (A2 (A9 (A0 (yb rfl (ya rfl (F5 (m := 0) rfl rfl rfl Tryz.underlying9 hc0) ?_)))))))))))))))
   exact ya rfl (GT rfl rfl rfl (ar rfl) (by omega)) (yl rfl rfl (by assumption) (ya rfl (KG rfl rfl rfl (by omega)) (yb rfl (A1 (A2 (AE (AI rfl rfl ⟨by rw [hno, hlet, hok]; rfl, hf⟩)))))))
  | false =>
   rw [hlet] at htab
   have h2 : tabN c0.toNat ≠ 2 := by rw [htab]; cases K6 c0 <;> simp
   refine A9 (A0 (ya rfl (ZC rfl rfl rfl (by omega)) (A1 (A2 (A9 (DB rfl (CF (AJ (AJ (BE (A2 (A9 (A0 (yb rfl (ya rfl (F5 (m := 0) rfl rfl rfl Tryz.underlying9 hc0) ?_)))))))))))))))
   exact ya rfl (GT rfl rfl rfl (ar rfl) (by omega)) (yl rfl rfl (by assumption) (ya rfl (GO rfl rfl rfl (by omega)) (yb rfl (A1 (A2 (AE (AI rfl rfl ⟨by rw [hno, hlet]; rfl, hf⟩)))))))
inductive Xn
 | zero
 | lit (v : Vl)
 | var (s : List UInt8)
 | un (op : UInt8) (a : Xn)
 | bin (op : UInt8) (a b : Xn)
def Xn.op : Xn → UInt8
 | .zero => 0
 | .lit _ => 1
 | .var _ => 2
 | .un o _ => o
 | .bin o _ _ => o
def Xn.vl : Xn → Vl
 | .lit v => v
 | _ => zeroVl
def Xn.nm : Xn → List UInt8
 | .var s => s
 | _ => []
def Xn.nk : Xn → Nat
 | .un _ _ => 1
 | .bin _ _ _ => 2
 | _ => 0
def Xn.cells (n : Xn) (A : Option Addr) : List Value := [.int .u8 (n.op.toNat : Int), .int .u8 (n.vl.kind.toNat : Int), .int .i64 n.vl.int, .bool n.vl.bool, str n.vl.text, str n.nm, .slice A n.nk n.nk]
def Xn.leaf : Xn → Bool
 | .un _ _ => false
 | .bin _ _ _ => false
 | _ => true
theorem Xn.nk_leaf {n : Xn} (h : n.leaf = true) : n.nk = 0 := by cases n <;> first | rfl | cases h
def CC (b : UInt8) : Bool := decide ((48 : Int) ≤ (b.toNat : Int)) && decide ((b.toNat : Int) ≤ 57)
def DS (b : UInt8) : Bool := decide ((97 : Int) ≤ ((b ||| 32).toNat : Int)) && decide (((b ||| 32).toNat : Int) ≤ 122)
def CR (b : UInt8) : Bool := DS b || CC b || decide ((b.toNat : Int) = 45) || decide ((b.toNat : Int) = 95) || decide ((b.toNat : Int) = 46)
def signTab : List (List UInt8 × (UInt8 × Nat)) := [([111, 114], (6, 1)), ([97, 110, 100], (5, 2)), ([61], (7, 4)), ([33, 61], (8, 4)), ([60], (9, 4)), ([60, 61], (10, 4)), ([62], (11, 4)), ([62, 61], (12, 4)), ([43], (13, 5)), ([45], (14, 5)), ([42], (15, 6)), ([47], (16, 6)), ([37], (17, 6))]
def VE : List (List UInt8 × (UInt8 × Nat)) → List UInt8 → Option (UInt8 × Nat)
 | [], _ => none
 | (k', v) :: r, k => if k = k' then some v else VE r k
def AH (s : List UInt8) : Option (UInt8 × Nat) := VE signTab s
def HF (s : List UInt8) : Bool := decide (s = [97, 110, 100]) || decide (s = [111, 114]) || decide (s = [110, 111, 116]) || decide (s = [116, 114, 117, 101]) || decide (s = [102, 97, 108, 115, 101])
structure Lx where
 at_ : Nat
 nd : Xn
 say : List UInt8
 tat : Nat
 fin : Bool
 e : Int
 wh : Nat
def Lx.cells (s : List UInt8) (x : Lx) : List Value := [str s, .int .i64 (x.at_ : Int), .int .u8 (x.nd.op.toNat : Int), .int .u8 (x.nd.vl.kind.toNat : Int), .int .i64 x.nd.vl.int, .bool x.nd.vl.bool, str x.nd.vl.text, str x.nd.nm, .slice none 0 0, str x.say, .int .i64 (x.tat : Int), .bool x.fin, .int .i64 x.e, .int .i64 (x.wh : Int)]
def Lx.fail (x : Lx) (e : Int) (p : Nat) : Lx := if x.e = 0 then { x with e := e, wh := p } else x
def LR (l : List UInt8) : List UInt8 := l.dropWhile (fun b => b == 32)
section
variable (s : List UInt8) (fr : Nat → Lx → Xn × Lx)
end
def lx0 : Lx := ⟨0, .zero, [], 0, false, 0, 0⟩
end Go.Proofs.YtadgfojhjnkliaaGreatDoor
namespace Go.Proofs.YtadgfojhjnkliaaGreatDoor
open Go.RowKit
def gQ (p : UInt8 × Nat) : Value := .agg #[.int .u8 (p.1.toNat : Int), .int .i64 (p.2 : Int)]
def D4 : List (List UInt8 × Value) := signTab.map fun p => (p.1, gQ p.2)
theorem NE (k : List UInt8) : ∀ l : List (List UInt8 × (UInt8 × Nat)), CG (l.map fun p => (p.1, gQ p.2)) k = (VE l k).map gQ
 | [] => rfl
 | (k', v) :: r => by
  rw [List.map_cons, CG, VE]
  by_cases h : k = k'
  ·rw [if_pos h, if_pos h]; rfl
  ·rw [if_neg h, if_neg h]; exact NE k r
theorem E2 (k : List UInt8) : (CG D4 k).getD (.agg #[.int .u8 0, .int .i64 0]) = .agg #[.int .u8 (((AH k).getD (0, 0)).1.toNat : Int), .int .i64 ((((AH k).getD (0, 0)).2 : Nat) : Int)] := by
 unfold D4 AH
 rw [NE]
 cases VE signTab k <;> rfl
theorem FY (k : List UInt8) : (CG D4 k).isSome = (AH k).isSome := by
 unfold D4 AH
 rw [NE]
 cases VE signTab k <;> rfl
theorem j6 (v : List UInt8) : ([[97, 110, 100], [111, 114], [110, 111, 116], [116, 114, 117, 101], [102, 97, 108, 115, 101]].any (fun z => decide (v = z))) = HF v := by
 simp only [List.any_cons, List.any_nil, HF, Bool.or_false, Bool.or_assoc]
theorem O1 (a0 : Int) (a2 : Bool) : Tryz.prog.built 67 [(0, .int .u8 a0), (2, .bool a2)] = some #[.int .u8 a0, .int .i64 0, .bool a2, str []] := by kernel_rfl
theorem EE (a0 : Int) (c1_0 c1_1 c1_2 c1_3 : Value) : Tryz.prog.built 70 [(0, .int .u8 a0), (1, .agg #[c1_0, c1_1, c1_2, c1_3])] = some #[.int .u8 a0, c1_0, c1_1, c1_2, c1_3, str [], .slice none 0 0] := by kernel_rfl
theorem O0 (a0 : Int) (a2 : List UInt8) : Tryz.prog.built 70 [(0, .int .u8 a0), (2, str a2)] = some #[.int .u8 a0, .int .u8 0, .int .i64 0, .bool false, str [], str a2, .slice none 0 0] := by kernel_rfl
theorem C9 (a0 : Int) (a1 : Int) : Tryz.prog.built 110 [(0, .int .u8 a0), (1, .int .i64 a1)] = some #[.int .u8 a0, .int .i64 a1] := by kernel_rfl
theorem M6 : (Tryz.prog.info? 27).map (·.size) = some 1 := by kernel_rfl
theorem FT : (Tryz.prog.info? 278).map (·.size) = some 1 := by kernel_rfl
theorem EM : (Tryz.prog.info? 9).map (·.size) = some 1 := by kernel_rfl
theorem EC (s : List UInt8) (x : Lx) (gx : Nat) (er : Int) (p : Nat) (w : World) (hb : Blk w gx 104 (Lx.cells s x)) :
 Calls Tryz.prog 49 #[.pointer (some ⟨gx, 0, none⟩), .int .i64 er, .int .i64 (p : Int)] w fun e w' => e = .returned (.tuple #[]) ∧ Blk w' gx 104 (Lx.cells s (x.fail er p)) ∧ Fr (fun k => k = gx) w w' := by
 refine AL (vs := [_, _, _]) Tryz.func49 rfl Tryz.ntmps49 rfl ?_
 have M : Mem w (fun k => k = gx) [As.blk gx 104 (Lx.cells s x)] w := Mem.one hb
 refine A9 (A0 (yb rfl (yb rfl (yb rfl (yl rfl rfl (M.cell 0 rfl rfl) (ya rfl (BC rfl rfl rfl) (A1 (A2 (AR (b := (decide (x.e = (0 : Int)))) rfl (fun h10 => ?_) (fun h10 => ?_))))))))))
 ·have h10p := (of_decide_eq_true h10)
  refine A0 ?_
  iterate 6 refine yb rfl ?_
  exact BU (cs' := [str s, .int .i64 ((x.at_ : Nat) : Int), .int .u8 (x.nd.op.toNat : Int), .int .u8 (x.nd.vl.kind.toNat : Int), .int .i64 x.nd.vl.int, .bool x.nd.vl.bool, str x.nd.vl.text, str x.nd.nm, .slice none 0 0, str x.say, .int .i64 ((x.tat : Nat) : Int), .bool x.fin, .int .i64 er, .int .i64 ((x.wh : Nat) : Int)]) M 0 (A4 rfl) rfl rfl rfl rfl rfl rfl rfl M6 (B5 rfl) rfl fun w1 M => yb rfl (yb rfl (BU (cs' := [str s, .int .i64 ((x.at_ : Nat) : Int), .int .u8 (x.nd.op.toNat : Int), .int .u8 (x.nd.vl.kind.toNat : Int), .int .i64 x.nd.vl.int, .bool x.nd.vl.bool, str x.nd.vl.text, str x.nd.nm, .slice none 0 0, str x.say, .int .i64 ((x.tat : Nat) : Int), .bool x.fin, .int .i64 er, .int .i64 ((p : Nat) : Int)]) M 0 (A4 rfl) rfl rfl rfl rfl rfl rfl rfl FT (B5 rfl) rfl fun w2 M => A1 (DC (Or.inr rfl) rfl ⟨rfl, by rw [Lx.fail, if_pos h10p]; exact M.blk 0 rfl, M.fr⟩)))
 ·have h10p := (of_decide_eq_false h10)
  exact AM (DC (Or.inr rfl) rfl ⟨rfl, by rw [Lx.fail, if_neg h10p]; exact M.blk 0 rfl, M.fr⟩)
theorem RG (b : UInt8) (w : World) : Calls Tryz.prog 104 #[.int .u8 (b.toNat : Int)] w fun e w' => e = .returned (.bool (CC b)) ∧ Fr0 w w' := by
 refine AL (vs := [_]) Tryz.func104 rfl Tryz.ntmps104 rfl ?_
 have M := CM w
 refine A9 (A0 (yb rfl (A1 (A2 (A9 (A0 (yb rfl (ya rfl (EP rfl rfl rfl) (yb rfl (AV 3 [(2, .bool false), (8, .bool ((decide ((48 : Int) ≤ (b.toNat : Int))) && (decide ((b.toNat : Int) ≤ (57 : Int)))))] (fun w' => Mem w AB [] w') ?_ (fun k5 => ?_)))))))))))
 ·intro w1 M
  exact yb rfl (A1 (A2 (AE (AI rfl rfl ⟨rfl, M.fr⟩))))
 refine AF (d := 5) (b := (decide ((48 : Int) ≤ (b.toNat : Int)))) rfl (fun h5 => ?_) (fun h5 => ?_)
 ·exact yd rfl (yp rfl) (yd rfl (I1 rfl rfl rfl) (yb rfl (k5 _ _ M ⟨rfl, (by rw [h5]; rfl), trivial⟩)))
 ·exact yo rfl (yo rfl (yb rfl (k5 _ _ M ⟨rfl, (by rw [h5]; rfl), trivial⟩)))
theorem SZ (b : UInt8) (w : World) : Calls Tryz.prog 107 #[.int .u8 (b.toNat : Int)] w fun e w' => e = .returned (.bool (DS b)) ∧ Fr0 w w' := by
 refine AL (vs := [_]) Tryz.func107 rfl Tryz.ntmps107 rfl ?_
 have M := CM w
 refine A9 (A0 (yb rfl (A1 (A2 (A9 (A0 (yb rfl (ya rfl (p8 (b := b) (c := 32) rfl rfl rfl) (ya rfl (EP rfl rfl rfl) (yb rfl (AV 4 [(2, .bool false), (10, .bool ((decide ((97 : Int) ≤ ((b ||| 32).toNat : Int))) && (decide (((b ||| 32).toNat : Int) ≤ (122 : Int)))))] (fun w' => Mem w AB [] w') ?_ (fun k6 => ?_))))))))))))
 ·intro w1 M
  exact yb rfl (A1 (A2 (AE (AI rfl rfl ⟨rfl, M.fr⟩))))
 refine AF (d := 6) (b := (decide ((97 : Int) ≤ ((b ||| 32).toNat : Int)))) rfl (fun h6 => ?_) (fun h6 => ?_)
 ·exact yd rfl (yp rfl) (yd rfl (p8 (b := b) (c := 32) rfl rfl rfl) (yd rfl (I1 rfl rfl rfl) (yb rfl (k6 _ _ M ⟨rfl, (by rw [h6]; rfl), trivial⟩))))
 ·exact yo rfl (yo rfl (yo rfl (yb rfl (k6 _ _ M ⟨rfl, (by rw [h6]; rfl), trivial⟩))))
theorem dZ (b : UInt8) (w : World) : Calls Tryz.prog 108 #[.int .u8 (b.toNat : Int)] w fun e w' => e = .returned (.bool (CR b)) ∧ Fr0 w w' := by
 refine AL (vs := [_]) Tryz.func108 rfl Tryz.ntmps108 rfl ?_
 have M := CM w
 refine A9 (A0 (yb rfl (A1 (A2 (A9 (A0 (yb rfl (AC (some 4) (A4 rfl) rfl rfl (AG rfl rfl Tryz.call107) (SZ _ _) ?_))))))))
 rintro _ w1 ⟨rfl, hfw1⟩
 refine ⟨_, rfl, ?_⟩
 have M := M.step hfw1
 refine yb rfl (AV 3 [(0, .int .u8 (b.toNat : Int)), (2, .bool false), (8, .bool ((DS b) || (CC b)))] (fun w' => Mem w AB [] w') ?_ (fun k5 => ?_))
 ·intro w2 M
  refine yb rfl (AV 3 [(0, .int .u8 (b.toNat : Int)), (2, .bool false), (12, .bool (((DS b) || (CC b)) || (decide ((b.toNat : Int) = (45 : Int)))))] (fun w' => Mem w AB [] w') ?_ (fun k9 => ?_))
  ·intro w3 M
   refine yb rfl (AV 3 [(0, .int .u8 (b.toNat : Int)), (2, .bool false), (16, .bool ((((DS b) || (CC b)) || (decide ((b.toNat : Int) = (45 : Int)))) || (decide ((b.toNat : Int) = (95 : Int)))))] (fun w' => Mem w AB [] w') ?_ (fun k13 => ?_))
   ·intro w4 M
    refine yb rfl (AV 3 [(2, .bool false), (20, .bool (((((DS b) || (CC b)) || (decide ((b.toNat : Int) = (45 : Int)))) || (decide ((b.toNat : Int) = (95 : Int)))) || (decide ((b.toNat : Int) = (46 : Int)))))] (fun w' => Mem w AB [] w') ?_ (fun k17 => ?_))
    ·intro w5 M
     exact yb rfl (A1 (A2 (AE (AI rfl rfl ⟨rfl, M.fr⟩))))
    refine AF (d := 17) (b := ((((DS b) || (CC b)) || (decide ((b.toNat : Int) = (45 : Int)))) || (decide ((b.toNat : Int) = (95 : Int))))) rfl (fun h17 => ?_) (fun h17 => ?_)
    ·exact yo rfl (yo rfl (yb rfl (k17 _ _ M ⟨rfl, (by rw [h17]; rfl), trivial⟩)))
    ·exact yd rfl (yp rfl) (yd rfl (BC rfl rfl rfl) (yb rfl (k17 _ _ M ⟨rfl, (by rw [h17]; rfl), trivial⟩)))
   refine AF (d := 13) (b := (((DS b) || (CC b)) || (decide ((b.toNat : Int) = (45 : Int))))) rfl (fun h13 => ?_) (fun h13 => ?_)
   ·exact yo rfl (yo rfl (yb rfl (k13 _ _ M ⟨rfl, rfl, (by rw [h13]; rfl), trivial⟩)))
   ·exact yd rfl (yp rfl) (yd rfl (BC rfl rfl rfl) (yb rfl (k13 _ _ M ⟨rfl, rfl, (by rw [h13]; rfl), trivial⟩)))
  refine AF (d := 9) (b := ((DS b) || (CC b))) rfl (fun h9 => ?_) (fun h9 => ?_)
  ·exact yo rfl (yo rfl (yb rfl (k9 _ _ M ⟨rfl, rfl, (by rw [h9]; rfl), trivial⟩)))
  ·exact yd rfl (yp rfl) (yd rfl (BC rfl rfl rfl) (yb rfl (k9 _ _ M ⟨rfl, rfl, (by rw [h9]; rfl), trivial⟩)))
 refine AF (d := 5) (b := (DS b)) rfl (fun h5 => ?_) (fun h5 => ?_)
 ·exact yo rfl (yo rfl (yb rfl (k5 _ _ M ⟨rfl, rfl, (by rw [h5]; rfl), trivial⟩)))
 ·refine yd rfl (yp rfl) (AC (some 7) (BA rfl rfl rfl) rfl rfl (AG rfl rfl Tryz.call104) (RG _ _) ?_)
  rintro _ w6 ⟨rfl, hfw6⟩
  refine ⟨_, rfl, ?_⟩
  have M := M.step hfw6
  exact yb rfl (k5 _ _ M ⟨rfl, rfl, (by rw [h5]; rfl), trivial⟩)
theorem o3 (A : Option Addr) (c : Nat) (l : List (List UInt8)) (v : List UInt8) (w : World) (hl : l.length ≤ 4611686018427387904) (hR : Rd w A (l.length * 1) (AS C7 l)) :
 Calls Tryz.prog 124 #[.slice A l.length c, str v] w fun e w' => e = .returned (.int .i64 (ixJ (fun _ z => decide (v = z)) 0 l)) ∧ Fr0 w w' := by
 refine AL (vs := [_, _]) Tryz.func124 rfl Tryz.ntmps124 rfl ?_
 have M := CM w
 refine A9 (A0 (yb rfl (A1 (A2 (A9 (A9 (A0 (yb rfl (ya rfl (CY rfl rfl (sl rfl)) (yb rfl (A1 (A2 (AZ (CO (fun e wr mz => ∃ (i : Nat), e = [(0, .slice A l.length c), (1, str v), (7, .int .i64 ((l.length : Nat) : Int)), (8, .int .i64 ((i : Nat) : Int))] ∧ Mem w AB [] wr ∧ (i ≤ l.length) ∧ (ixJ (fun _ z => decide (v = z)) 0 l = ixJ (fun _ z => decide (v = z)) i (l.drop i)) ∧ mz = l.length - i) ⟨0, rfl, M, Nat.zero_le _, rfl, rfl⟩ ⟨rfl, rfl, rfl, rfl, trivial⟩ ?_))))))))))))))
 rintro _ w1 _ ⟨i, rfl, M, hi, hr, rfl⟩
 refine A9 (A0 (ya rfl (CJ rfl rfl rfl) (A1 (A2 (A9 (AR (b := (decide (((i : Nat) : Int) < ((l.length : Nat) : Int)))) rfl (fun h9 => ?_) (fun h9 => ?_)))))))
 ·have h9p := (of_decide_eq_true h9)
  refine AM (A2 (A9 (AZ (A9 (A0 (yb rfl (yb rfl (A1 (A2 (A9 (A0 (yb rfl (yb rfl (yb rfl ?_))))))))))))))
  obtain ⟨x, hx⟩ := DY (l := l) (i := i) (by omega)
  obtain ⟨b_x, o_x, hA_x⟩ := CN (k := 1) (by omega) (hR.fr0 M.fr) hx
  refine ya rfl (BZ i hA_x rfl rfl rfl (sl rfl) (by omega)) (yl rfl rfl (G1 FW (hR.fr0 M.fr) hA_x hx 0 rfl) (ya rfl (DG rfl rfl rfl) (A1 (A2 (AR (b := (decide (v = x))) rfl (fun h16 => ?_) (fun h16 => ?_))))))
  ·have h16p := (of_decide_eq_true h16)
   exact A9 (A0 (yb rfl (yb rfl (A1 (A2 (AE (AK (AA (AA (AK (AA (AI rfl rfl ⟨by rw [hr, BJ hx, ixJ, if_pos h16], M.fr⟩))))))))))))
  ·have h16p := (of_decide_eq_false h16)
   refine AM (AD (A2 (A0 (ya rfl (CQ rfl rfl rfl (by omega)) (yb rfl (A1 (BP [(0, .slice A l.length c), (1, str v), (7, .int .i64 ((l.length : Nat) : Int)), (8, .int .i64 (((i + 1) : Nat) : Int))] (l.length - (i + 1)) ⟨i + 1, rfl, M, ?_, ?_, rfl⟩ (by first | omega | (simp only [List.length_append, List.length_cons, List.length_nil]; omega)) ⟨rfl, rfl, rfl, rfl, trivial⟩)))))))
   ·omega
   ·rw [hr, BJ hx, ixJ, if_neg (BD h16)]
 ·have h9p := (of_decide_eq_false h9)
  refine CF (AJ (AJ (BE (A2 (A9 (A0 (yb rfl (A1 (A2 (AE (AI rfl rfl ?_)))))))))))
  obtain rfl : i = l.length := by omega
  exact ⟨by rw [hr, List.drop_length]; rfl, M.fr⟩
theorem WZ (A : Option Addr) (c : Nat) (l : List (List UInt8)) (v : List UInt8) (w : World) (hl : l.length ≤ 4611686018427387904) (hR : Rd w A (l.length * 1) (AS C7 l)) :
 Calls Tryz.prog 67 #[.slice A l.length c, str v] w fun e w' => e = .returned (.bool (l.any (fun z => decide (v = z)))) ∧ Fr0 w w' := by
 refine AL (vs := [_, _]) Tryz.func67 rfl Tryz.ntmps67 rfl ?_
 have M := CM w
 refine A9 (A0 (yb rfl (A1 (A2 (A9 (A0 (yb rfl (yb rfl (AC (some 7) (A4 rfl) rfl rfl (AG rfl rfl Tryz.call124) (o3 _ _ l _ _ (by first | omega | decide) (hR.fr0 M.fr)) ?_)))))))))
 rintro _ w1 ⟨rfl, hfw1⟩
 refine ⟨_, rfl, ?_⟩
 have M := M.step hfw1
 exact ya rfl (EP rfl rfl rfl) (yb rfl (A1 (A2 (AE (AI rfl rfl ⟨by rw [JM], M.fr⟩)))))
theorem GW (w : World) :
 Calls Tryz.prog 53 #[] w fun e w' => ∃ g, e = .returned (.map (some g)) ∧ Mp w' g D4 ∧ w.heap.size ≤ g ∧ Fr0 w w' := by
 refine AL (vs := []) Tryz.func53 rfl Tryz.ntmps53 rfl ?_
 have M := CM w
 refine A9 (A0 (yb rfl (A1 (A2 (A9 (A0 (HM M (A4 rfl) rfl rfl rfl fun g1 w1 hg1 M => ya rfl (BS (parts := [(0, _), (1, _)]) rfl rfl (C9 _ _)) (DH M 0 (A4 rfl) rfl rfl rfl rfl rfl Tryz.underlying112 Tryz.underlying9 rfl fun w2 M => ya rfl (BS (parts := [(0, _), (1, _)]) rfl rfl (C9 _ _)) (DH M 0 (A4 rfl) rfl rfl rfl rfl rfl Tryz.underlying112 Tryz.underlying9 rfl fun w3 M => ya rfl (BS (parts := [(0, _), (1, _)]) rfl rfl (C9 _ _)) ?_)))))))))
 refine DH M 0 (A4 rfl) rfl rfl rfl rfl rfl Tryz.underlying112 Tryz.underlying9 rfl fun w4 M => ya rfl (BS (parts := [(0, _), (1, _)]) rfl rfl (C9 _ _)) (DH M 0 (A4 rfl) rfl rfl rfl rfl rfl Tryz.underlying112 Tryz.underlying9 rfl fun w5 M => ya rfl (BS (parts := [(0, _), (1, _)]) rfl rfl (C9 _ _)) (DH M 0 (A4 rfl) rfl rfl rfl rfl rfl Tryz.underlying112 Tryz.underlying9 rfl fun w6 M => ya rfl (BS (parts := [(0, _), (1, _)]) rfl rfl (C9 _ _)) (DH M 0 (A4 rfl) rfl rfl rfl rfl rfl Tryz.underlying112 Tryz.underlying9 rfl fun w7 M => ya rfl (BS (parts := [(0, _), (1, _)]) rfl rfl (C9 _ _)) (DH M 0 (A4 rfl) rfl rfl rfl rfl rfl Tryz.underlying112 Tryz.underlying9 rfl fun w8 M => ya rfl (BS (parts := [(0, _), (1, _)]) rfl rfl (C9 _ _)) (DH M 0 (A4 rfl) rfl rfl rfl rfl rfl Tryz.underlying112 Tryz.underlying9 rfl ?_)))))
 intro w9 M
 refine ya rfl (BS (parts := [(0, _), (1, _)]) rfl rfl (C9 _ _)) (DH M 0 (A4 rfl) rfl rfl rfl rfl rfl Tryz.underlying112 Tryz.underlying9 rfl fun w10 M => ya rfl (BS (parts := [(0, _), (1, _)]) rfl rfl (C9 _ _)) (DH M 0 (A4 rfl) rfl rfl rfl rfl rfl Tryz.underlying112 Tryz.underlying9 rfl fun w11 M => ya rfl (BS (parts := [(0, _), (1, _)]) rfl rfl (C9 _ _)) (DH M 0 (A4 rfl) rfl rfl rfl rfl rfl Tryz.underlying112 Tryz.underlying9 rfl fun w12 M => ya rfl (BS (parts := [(0, _), (1, _)]) rfl rfl (C9 _ _)) (DH M 0 (A4 rfl) rfl rfl rfl rfl rfl Tryz.underlying112 Tryz.underlying9 rfl fun w13 M => ya rfl (BS (parts := [(0, _), (1, _)]) rfl rfl (C9 _ _)) (DH M 0 (A4 rfl) rfl rfl rfl rfl rfl Tryz.underlying112 Tryz.underlying9 rfl fun w14 M => yb rfl ?_)))))
 exact yb rfl (A1 (A2 (AE (AI rfl rfl ⟨_, rfl, M.mp 0 rfl, hg1, M.fr⟩))))
theorem MP (v : List UInt8) (w : World) :
 Calls Tryz.prog 141 #[str v] w fun e w' => e = .returned (.bool (HF v)) ∧ Fr0 w w' := by
 refine AL (vs := [_]) Tryz.func141 rfl Tryz.ntmps141 rfl ?_
 have M := CM w
 refine A9 (A0 (yb rfl (A1 (A2 (A9 (A0 (F1 M (A4 rfl) rfl rfl [str [97, 110, 100], str [111, 114], str [110, 111, 116], str [116, 114, 117, 101], str [102, 97, 108, 115, 101]] ([str [97, 110, 100], str [111, 114], str [110, 111, 116], str [116, 114, 117, 101], str [102, 97, 108, 115, 101]]) rfl rfl rfl rfl Tryz.underlying45 D5 rfl rfl (by intro v hv; simp only [List.mem_cons, List.not_mem_nil, or_false] at hv; rcases hv with rfl | rfl | rfl | rfl | rfl <;> rfl) rfl fun g3 w1 hg3 M => yb rfl (AC (some 5) (A4 rfl) rfl rfl (AG rfl rfl Tryz.call67) (WZ _ _ [[97, 110, 100], [111, 114], [110, 111, 116], [116, 114, 117, 101], [102, 97, 108, 115, 101]] _ _ (by first | omega | decide) (M.rdBlk 0 rfl rfl)) ?_))))))))
 rintro _ w2 ⟨rfl, hfw2⟩
 refine ⟨_, rfl, ?_⟩
 have M := M.step hfw2
 exact yb rfl (A1 (A2 (AE (AI rfl rfl ⟨by rw [j6], M.fr⟩))))
def E8 (t : List UInt8) (x : Lx) : Lx := (if ((decide (t = [116, 114, 117, 101])) || (decide (t = [102, 97, 108, 115, 101]))) = true then (⟨x.at_, .lit ⟨2, 0, (decide (t = [116, 114, 117, 101])), []⟩, x.say, x.tat, x.fin, x.e, x.wh⟩ : Lx) else (if (HF t) = true then (⟨x.at_, x.nd, t, x.tat, x.fin, x.e, x.wh⟩ : Lx) else (if (!(BX t)) = true then (x.fail 4 x.at_) else (⟨x.at_, .var t, x.say, x.tat, x.fin, x.e, x.wh⟩ : Lx))))
theorem dO (s : List UInt8) (x : Lx) (gx : Nat) (t : List UInt8) (w : World) (hb : Blk w gx 104 (Lx.cells s x)) (ht : (t.length : Int) < 4611686018427387904) :
 Calls Tryz.prog 109 #[.pointer (some ⟨gx, 0, none⟩), str t] w fun e w' => e = .returned (.tuple #[]) ∧ Blk w' gx 104 (Lx.cells s (E8 t x)) ∧ Fr (fun k => k = gx) w w' := by
 refine AL (vs := [_, _]) Tryz.func109 rfl Tryz.ntmps109 rfl ?_
 have M : Mem w (fun k => k = gx) [As.blk gx 104 (Lx.cells s x)] w := Mem.one hb
 refine AZ (A9 (A0 (yb rfl (ya rfl (DG rfl rfl rfl) (yb rfl (AV 3 [(1, str t), (0, .pointer (some ⟨gx, 0, none⟩)), (16, .bool ((decide (t = [116, 114, 117, 101])) || (decide (t = [102, 97, 108, 115, 101]))))] (fun w' => Mem w (fun k => k = gx) [As.blk gx 104 (Lx.cells s x)] w') ?_ (fun k13 => ?_)))))))
 ·intro w1 M
  refine yb rfl (A1 (A2 (AR (b := ((decide (t = [116, 114, 117, 101])) || (decide (t = [102, 97, 108, 115, 101])))) rfl (fun h10 => ?_) (fun h10 => ?_))))
  ·have h10p := ((EK h10).imp (fun z => (of_decide_eq_true z)) (fun z => (of_decide_eq_true z)))
   exact A0 (yb rfl (yb rfl (ya rfl (DG rfl rfl rfl) (ya rfl (BS (parts := [(0, _), (2, _)]) rfl rfl (O1 _ _)) (ya rfl (BS (parts := [(0, _), (1, _)]) rfl rfl (EE _ _ _ _ _)) (yb rfl (yb rfl (yb rfl (B8 (cs' := [str s, .int .i64 ((x.at_ : Nat) : Int), .int .u8 1, .int .u8 2, .int .i64 0, .bool (decide (t = [116, 114, 117, 101])), str [], str [], .slice none 0 0, str x.say, .int .i64 ((x.tat : Nat) : Int), .bool x.fin, .int .i64 x.e, .int .i64 ((x.wh : Nat) : Int)]) M 0 (A4 rfl) rfl rfl rfl rfl rfl AN rfl (AQ rfl) (B3 rfl) rfl fun w2 M => A1 (AD (DC (Or.inr rfl) rfl ⟨rfl, by rw [E8, if_pos h10]; exact M.blk 0 rfl, M.fr⟩)))))))))))
  ·have h10p := (And.intro (of_decide_eq_false (CD h10).1) (of_decide_eq_false (CD h10).2))
   refine A9 (A0 (yb rfl (AC (some 27) (A4 rfl) rfl rfl (AG rfl rfl Tryz.call141) (MP _ _) ?_)))
   rintro _ w3 ⟨rfl, hfw3⟩
   refine ⟨_, rfl, ?_⟩
   have M := M.step hfw3
   refine yb rfl (A1 (A2 (AR (b := (HF t)) rfl (fun h25 => ?_) (fun h25 => ?_))))
   ·refine A0 ?_
    iterate 5 refine yb rfl ?_
    exact BU (cs' := [str s, .int .i64 ((x.at_ : Nat) : Int), .int .u8 (x.nd.op.toNat : Int), .int .u8 (x.nd.vl.kind.toNat : Int), .int .i64 x.nd.vl.int, .bool x.nd.vl.bool, str x.nd.vl.text, str x.nd.nm, .slice none 0 0, str t, .int .i64 ((x.tat : Nat) : Int), .bool x.fin, .int .i64 x.e, .int .i64 ((x.wh : Nat) : Int)]) M 0 (A4 rfl) rfl rfl rfl rfl rfl rfl rfl EM (B5 rfl) rfl fun w4 M => A1 (AD (DC (Or.inr rfl) rfl ⟨rfl, by rw [E8, if_neg (BD h10), if_pos h25]; exact M.blk 0 rfl, M.fr⟩))
   ·refine A9 (A0 (yb rfl (AC (some 35) (A4 rfl) rfl rfl (AG rfl rfl Tryz.call68) (DV _ _ (by omega)) ?_)))
    rintro _ w5 ⟨rfl, hfw5⟩
    refine ⟨_, rfl, ?_⟩
    have M := M.step hfw5
    refine yb rfl (yb rfl (A1 (A2 (AR (b := (!(BX t))) rfl (fun h33 => ?_) (fun h33 => ?_)))))
    ·have h33p := (C4 h33)
     refine A0 ?_
     iterate 4 refine yb rfl ?_
     refine yl rfl rfl (M.cell 0 rfl rfl) (AC (some 42) (A4 rfl) rfl rfl (AG rfl rfl Tryz.call49) (EC s _ _ _ _ _ (M.blk 0 rfl)) ?_)
     rintro _ w6 ⟨rfl, hbw6, hfw6⟩
     have M := M.putB 0 rfl hbw6 hfw6
     exact ⟨_, rfl, A1 (AD (DC (Or.inr rfl) rfl ⟨rfl, by rw [E8, if_neg (BD h10), if_neg (BD h25), if_pos h33]; exact M.blk 0 rfl, M.fr⟩))⟩
    ·have h33p := (C6 h33)
     exact A0 (yb rfl (yb rfl (ya rfl (BS (parts := [(0, _), (2, _)]) rfl rfl (O0 _ _)) (yb rfl (yb rfl (yb rfl (B8 (cs' := [str s, .int .i64 ((x.at_ : Nat) : Int), .int .u8 2, .int .u8 0, .int .i64 0, .bool false, str [], str t, .slice none 0 0, str x.say, .int .i64 ((x.tat : Nat) : Int), .bool x.fin, .int .i64 x.e, .int .i64 ((x.wh : Nat) : Int)]) M 0 (A4 rfl) rfl rfl rfl rfl rfl AN rfl (AQ rfl) (B3 rfl) rfl fun w7 M => A1 (AD (DC (Or.inr rfl) rfl ⟨rfl, by rw [E8, if_neg (BD h10), if_neg (BD h25), if_neg (BD h33)]; exact M.blk 0 rfl, M.fr⟩)))))))))
 refine AF (d := 13) (b := (decide (t = [116, 114, 117, 101]))) rfl (fun h13 => ?_) (fun h13 => ?_)
 ·exact yo rfl (yo rfl (yb rfl (k13 _ _ M ⟨rfl, rfl, (by rw [h13]; rfl), trivial⟩)))
 ·exact yd rfl (yp rfl) (yd rfl (DG rfl rfl rfl) (yb rfl (k13 _ _ M ⟨rfl, rfl, (by rw [h13]; rfl), trivial⟩)))
section
variable {P : Program} {e : Env} {w : World} {o : Oper}
theorem ZD {s d : TypeId} {x : Operand} {v v' : Value} (ho : o.op = .convert s d x) (hx : ev e x = some v) (hc : (convert s d v).run P w = .ok v' w) : Y P e o w v' := fun ρ h => by
 unfold execOp; simp [ho, h _ _ hx, hc]
theorem bQ {t t' el n : Nat} {a : Addr} {x y : Operand} (ho : o.op = .binOp .neq t x y t') (hx : ev e x = some (.pointer (some a))) (hy : ev e y = some (.pointer (some a))) (hu : HQ P t = some el) (hz : ∀ w, (Go.sizeOf el).run P w = .ok n w) : Y P e o w (.bool false) := fun ρ h => by
 have h1 : (Op.equal t (.pointer (some a)) (.pointer (some a))).run P w = .ok true w := by
  unfold Op.equal Op.maxDepth Op.equalIn
  simp [run_underlying (I5 hu), hz, sameAddr]
 unfold execOp; simp [ho, h _ _ hx, h _ _ hy, eqGuard_at_pointer, binOp, h1]
theorem pP {f : FuncId} {x : Operand} {ts : Array TypeId} {v : Value} (ho : o.op = .call { callee := .value (.func f), args := #[x], argTypes := ts }) (hx : ev e x = some v) (hc : ∀ (u : Value) (w : World), (callFunc f #[u]).run P w = .ok (.value u) w) : Y P e o w v := fun ρ h => by
 have h0 : ρ (.func f) = .func (.func f) #[] #[] := h _ _ rfl
 unfold execOp; simp [ho, h _ _ hx, h0, resolve, invoke, Deferred.ofValue, hc]
end
theorem Fr.below1 {w w' : World} {b B : Nat} (h : Fr (fun k => k = b) w w') (hb : B ≤ b) (hBw : B ≤ w.heap.size) : Below B w w' := ⟨h.os, h.tape, h.output, h.size, fun k hk => h.block k (by omega) (by omega)⟩
theorem sX (u : Value) (w : World) : (callFunc 185 #[u]).run Tryz.prog w = .ok (.value u) w := by
 rw [run_callFunc_extern Tryz.func185 (by kernel_rfl) (by kernel_rfl) (by kernel_rfl) (e := Extern.AbiNoEscape.same) (by kernel_rfl), Lib.run_noEscape]
 rfl
theorem lA : liesAt Tryz.prog Tryz.prog.depth 196 (2 / Tryz.prog.cellsOf 196) 0 196 1 = true := by kernel_rfl
theorem lB : (Tryz.prog.info? 196).map (·.size) = some 2 := by kernel_rfl
theorem i6 : (Tryz.prog.info? 193).map (·.size) = some 1 := by kernel_rfl
theorem gN : (Tryz.prog.info? 194).map (·.size) = some 1 := by kernel_rfl
theorem mB : (Tryz.prog.info? 5).map (fun i => (i.zero, i.size, i.bytes)) = some (some (.int .u8 0), 1, 1) := by kernel_rfl
theorem qC : (Tryz.prog.info? 5).map (fun i => (i.zero, i.size)) = some (some (.int .u8 0), 1) := by kernel_rfl
theorem UR (B b : Nat) (bs : List Value) (w : World) (h : Lib.IsBuilder 196 5 B b bs w) (hBw : B ≤ w.heap.size) :
 Calls Tryz.prog 161 #[.pointer (some ⟨b, 0, none⟩)] w fun e w' => e = .returned (.tuple #[]) ∧ Lib.BuilderAt 196 5 B b (.pointer (some ⟨b, 0, none⟩)) bs w' ∧ Below B w w' := by
 rcases h with h | h
 ·have hsh := h.shape
  obtain ⟨hB, v, hbk, hown, hne⟩ := h
  have hb : Blk w b 196 [.pointer none, v] := hbk
  have c0 : Cell w.heap b 0 (.pointer none) := hb.c 0 rfl
  obtain ⟨j, hj, hjs⟩ := Option.map_eq_some_iff.1 lB
  refine AL (vs := [_]) Tryz.func161 rfl Tryz.ntmps161 rfl (A9 (A0 (yb rfl (yb rfl (yb rfl (yl rfl rfl (by assumption) (ya rfl (LY rfl rfl rfl (pt rfl)) (A1 (A2 (DQ rfl (A0 (yb rfl (yb rfl (ya rfl (ZD rfl rfl (Lib.run_to_unsafe _ ⟨b, 0, none⟩ Tryz.underlying193 Tryz.underlying235 hj (by rw [hjs]; decide) hsh (by show 0 < 2; omega))) (ya rfl (pP rfl rfl sX) ?_)))))))))))))))
  refine ya rfl (ZD rfl rfl (Lib.run_from_unsafe _ ⟨b, 0, none⟩ Tryz.underlying235 Tryz.underlying193 hj hsh lA)) (yb rfl (yb rfl (CK none (A4 rfl) rfl rfl (fun ρ hρ => DZ _ _ _ rfl b 0 _ _ (.pointer (some ⟨b, 0, none⟩)) (hρ _ _ rfl) (hρ _ _ rfl) rfl hb i6 (by show 0 < 2; omega) rfl) ?_)))
  rintro _ w1 ⟨rfl, hb1, hf1⟩
  exact A1 (DC (Or.inr rfl) rfl ⟨rfl, ⟨hB, v, hb1, Y1 hown hf1 (fun k hk e => hne (by rw [hk, e])), hne⟩, hf1.below1 hB hBw⟩)
 ·have h' := h
  obtain ⟨hB, v, hbk, hown, hne⟩ := h
  have hb : Blk w b 196 [.pointer (some ⟨b, 0, none⟩), v] := hbk
  have c0 : Cell w.heap b 0 (.pointer (some ⟨b, 0, none⟩)) := hb.c 0 rfl
  refine AL (vs := [_]) Tryz.func161 rfl Tryz.ntmps161 rfl (A9 (A0 (yb rfl (yb rfl (yb rfl (yl rfl rfl (by assumption) (ya rfl (LY rfl rfl rfl (pt rfl)) (A1 (A2 (DB rfl (A9 (A0 (yb rfl (yb rfl (yb rfl ?_)))))))))))))))
  exact yl rfl rfl (by assumption) (yb rfl (ya rfl (bQ rfl rfl rfl (pt rfl) Tryz.sizeOf196) (A1 (A2 (DB rfl (AM (DC (Or.inr rfl) rfl ⟨rfl, h', Below.refl B w⟩)))))))
theorem LZ (B b : Nat) (l : List UInt8) (c : UInt8) (w : World) (h : Lib.IsBuilder 196 5 B b (bvs l) w) (hlen : l.length + 1 ≤ 140737488355328) (hBw : B ≤ w.heap.size) :
 Calls Tryz.prog 143 #[.pointer (some ⟨b, 0, none⟩), .int .u8 (c.toNat : Int)] w fun e w' => e = .returned .nilIface ∧ Lib.IsBuilder 196 5 B b (bvs (l ++ [c])) w' ∧ Below B w w' := by
 refine AL (vs := [_, _]) Tryz.func143 rfl Tryz.ntmps143 rfl (A9 (A0 (yb rfl (A1 (A2 (A9 (A0 (yb rfl (AC (some 6) (A4 rfl) rfl rfl (AG rfl rfl Tryz.call161) (UR B b _ _ h hBw) ?_)))))))))
 rintro _ w1 ⟨rfl, h1, hb1⟩
 refine ⟨_, rfl, ?_⟩
 obtain ⟨hB, v, hbk, hown, hne⟩ := h1
 have hb : Blk w1 b 196 [.pointer (some ⟨b, 0, none⟩), v] := hbk
 obtain ⟨A, cap, rfl, _, hcm, hrd, _⟩ := VY hown
 have c1 : Cell w1.heap b 1 (.slice A (bvs l).length cap) := hb.c 1 rfl
 refine A1 (A2 (A9 (A0 ?_)))
 iterate 4 refine yb rfl ?_
 refine yl rfl rfl (by assumption) (yb rfl (CK (some 13) (A4 rfl) rfl rfl (fun ρ hρ => E1 [bv c] (.int .u8 0) hρ rfl rfl rfl rfl Tryz.underlying194 qC (by decide) (by decide) (by intro u hu; simp only [List.mem_singleton] at hu; subst hu; rfl)) ?_))
 rintro _ w2 ⟨g2, rfl, hg1, hg2, hb2, hf2⟩
 have hB1 := hb1.size
 refine CK (some 14) (A4 rfl) rfl rfl (fun ρ hρ => WY _ _ 194 rfl B 5 _ _ Tryz.underlying194 mB rfl _ _ (bvs l) (hρ _ _ rfl) (Y1 hown hf2 (fun _ _ hh => hh)) _ 1 1 [bv c] (hρ _ _ rfl) (Rd.ofBlk hb2 rfl) (by intro u hu; simp only [List.mem_singleton] at hu; subst hu; rfl) (by rw [RO]; unfold maxLen; omega) (by rw [RO]; omega) (by have := hf2.size; omega)) ?_
 rintro v3 w3 ⟨hown3, hgr, hrow⟩
 obtain ⟨A3, cap3, rfl, _, _, _, _⟩ := VY hown3
 have hlt : b < w1.heap.size := hb.lt
 have hb3 : Blk w3 b 196 [.pointer (some ⟨b, 0, none⟩), .slice A (bvs l).length cap] := by
  have h2 : Blk w2 b 196 _ := hb.fr0 hf2
  exact (hgr.block b h2.lt (fun e => hne e.symm)).trans h2
 have hne3 : (Value.slice A3 ((bvs l).length + 1) cap3).ownBlock ≠ some b := Lib.ownBlock_ne hown3 hb3 (by decide)
 refine yb rfl (yb rfl (CK none (A4 rfl) rfl rfl (fun ρ hρ => DZ _ _ _ rfl b 1 _ _ (.slice A3 ((bvs l).length + 1) cap3) (hρ _ _ rfl) (hρ _ _ rfl) rfl hb3 gN (by show 1 < 2; omega) rfl) ?_))
 rintro _ w4 ⟨rfl, hb4, hf4⟩
 refine A1 (A2 (A9 (A0 (yb rfl (A1 (A2 (AE (AI rfl rfl ?_))))))))
 have hl : bvs (l ++ [c]) = bvs l ++ [bv c] := by simp [bvs]
 have hf3 : Fr (fun k => some k = (Value.slice A (bvs l).length cap).ownBlock) w2 w3 := ⟨hgr.os, hgr.tape, hgr.output, hgr.size, fun k hk hn => hgr.block k hk hn⟩
 refine ⟨rfl, .inr ⟨hB, _, hb4, ?_, ?_⟩, ?_⟩
 ·rw [hl]
  have := Y1 hown3 hf4 (fun k hk e => hne3 (by rw [hk, e]))
  simpa using this
 ·simpa using hne3
 ·have hw2 := hf2.size
  refine hb1.trans ⟨hf4.os.trans (hf3.os.trans hf2.os), hf4.tape.trans (hf3.tape.trans hf2.tape), hf4.output.trans (hf3.output.trans hf2.output), Nat.le_trans hf2.size (Nat.le_trans hf3.size hf4.size), fun k hk => ?_⟩
  rw [hf4.block k (by have := hf3.size; omega) (by omega), hf3.block k (by omega) (fun e => ?_), hf2.block k (by omega) (fun hh => hh)]
  have := (hown.lt k e.symm).1
  omega
end Go.Proofs.YtadgfojhjnkliaaGreatDoor
namespace Go.Proofs
open Go.Shelf
def Tryz.lays169_ren : Go.Shelf.Ren := ⟨fun | 169 => 142 | n => n, fun | 70 => 193 | 9 => 9 | 0 => 0 | 72 => 196 | 37 => 194 | 127 => 208 | 3 => 3 | 5 => 5 | n => n, fun | n => n⟩
theorem Tryz.lays169 : Go.Proofs.Lays.n169 Tryz.prog Tryz.lays169_ren := {
 mixed := by kernel_rfl
 f169 := Tryz.func142.trans (congrArg some (by kernel_rfl))
 t0 := Tryz.underlying0
 a0 := Tryz.isAgg0
 z0 := Tryz.sizeOf0
 v0 := Tryz.zeroValue0
 t3 := Tryz.underlying3
 a3 := Tryz.isAgg3
 z3 := Tryz.sizeOf3
 v3 := Tryz.zeroValue3
 t9 := Tryz.underlying9
 a9 := Tryz.isAgg9
 z9 := Tryz.sizeOf9
 v9 := Tryz.zeroValue9
 t37 := Tryz.underlying194
 a37 := Tryz.isAgg194
 z37 := Tryz.sizeOf194
 v37 := Tryz.zeroValue194
 t70 := Tryz.underlying193
 a70 := Tryz.isAgg193
 z70 := Tryz.sizeOf193
 v70 := Tryz.zeroValue193
 t72 := Tryz.underlying196
 a72 := Tryz.isAgg196
 z72 := Tryz.sizeOf196
 v72 := Tryz.zeroValue196
 t127 := Tryz.underlying208
 a127 := Tryz.isAgg208
 z127 := Tryz.sizeOf208
 v127 := Tryz.zeroValue208 }
theorem Tryz.Builder_Extra_169 : Builder.Extra Tryz.prog Tryz.lays169_ren := {
 sizeBuilder := by kernel_rfl
 liesBuilder := by kernel_rfl
 t5 := Tryz.underlying5
 a5 := Tryz.isAgg5
 z5 := Tryz.sizeOf5
 v5 := Tryz.zeroValue5
 infoByte := by kernel_rfl
 cellsByte := by kernel_rfl
 sizeByte := by kernel_rfl
 neB5 := by decide }
def Tryz.lays161_ren : Go.Shelf.Ren := ⟨fun | 161 => 103 | 231 => 134 | 227 => 135 | 233 => 136 | 235 => 137 | 228 => 155 | 197 => 156 | 151 => 157 | 260 => 178 | 152 => 179 | 137 => 193 | 119 => 194 | 224 => 195 | 225 => 196 | 217 => 216 | 266 => 225 | n => n, fun | 9 => 9 | 4 => 4 | 3 => 3 | 5 => 5 | 117 => 183 | 116 => 182 | 0 => 0 | 124 => 186 | 105 => 203 | 21 => 21 | 119 => 175 | 46 => 213 | 139 => 212 | 138 => 211 | n => n, fun | 3 => 0 | 4 => 1 | n => n⟩
theorem Tryz.lays161 : Go.Proofs.Lays.n161 Tryz.prog Tryz.lays161_ren := {
 mixed := by kernel_rfl
 f119 := Tryz.func194.trans (congrArg some (by kernel_rfl))
 f137 := Tryz.func193.trans (congrArg some (by kernel_rfl))
 f151 := Tryz.func157.trans (congrArg some (by kernel_rfl))
 f152 := Tryz.func179.trans (congrArg some (by kernel_rfl))
 f161 := Tryz.func103.trans (congrArg some (by kernel_rfl))
 f197 := Tryz.func156.trans (congrArg some (by kernel_rfl))
 f217 := Tryz.func216.trans (congrArg some (by kernel_rfl))
 f224 := Tryz.func195.trans (congrArg some (by kernel_rfl))
 f225 := Tryz.func196.trans (congrArg some (by kernel_rfl))
 f227 := Tryz.func135.trans (congrArg some (by kernel_rfl))
 f228 := Tryz.func155.trans (congrArg some (by kernel_rfl))
 f231 := Tryz.func134.trans (congrArg some (by kernel_rfl))
 f233 := Tryz.func136.trans (congrArg some (by kernel_rfl))
 f235 := Tryz.func137.trans (congrArg some (by kernel_rfl))
 f260 := Tryz.func178.trans (congrArg some (by kernel_rfl))
 f266 := Tryz.func225.trans (congrArg some (by kernel_rfl))
 t0 := Tryz.underlying0
 a0 := Tryz.isAgg0
 z0 := Tryz.sizeOf0
 v0 := Tryz.zeroValue0
 t3 := Tryz.underlying3
 a3 := Tryz.isAgg3
 z3 := Tryz.sizeOf3
 v3 := Tryz.zeroValue3
 t4 := Tryz.underlying4
 a4 := Tryz.isAgg4
 z4 := Tryz.sizeOf4
 v4 := Tryz.zeroValue4
 t5 := Tryz.underlying5
 a5 := Tryz.isAgg5
 z5 := Tryz.sizeOf5
 v5 := Tryz.zeroValue5
 t9 := Tryz.underlying9
 a9 := Tryz.isAgg9
 z9 := Tryz.sizeOf9
 v9 := Tryz.zeroValue9
 t21 := Tryz.underlying21
 a21 := Tryz.isAgg21
 z21 := Tryz.sizeOf21
 v21 := Tryz.zeroValue21
 t46 := Tryz.underlying213
 a46 := Tryz.isAgg213
 z46 := Tryz.sizeOf213
 v46 := Tryz.zeroValue213
 t105 := Tryz.underlying203
 a105 := Tryz.isAgg203
 z105 := Tryz.sizeOf203
 v105 := Tryz.zeroValue203
 t116 := Tryz.underlying182
 a116 := Tryz.isAgg182
 z116 := Tryz.sizeOf182
 t117 := Tryz.underlying183
 a117 := Tryz.isAgg183
 z117 := Tryz.sizeOf183
 v117 := Tryz.zeroValue183
 t119 := Tryz.underlying175
 a119 := Tryz.isAgg175
 z119 := Tryz.sizeOf175
 t124 := Tryz.underlying186
 a124 := Tryz.isAgg186
 z124 := Tryz.sizeOf186
 v124 := Tryz.zeroValue186
 t138 := Tryz.underlying211
 a138 := Tryz.isAgg211
 z138 := Tryz.sizeOf211
 v138 := Tryz.zeroValue211
 t139 := Tryz.underlying212
 a139 := Tryz.isAgg212
 z139 := Tryz.sizeOf212
 v139 := Tryz.zeroValue212
 g3 := by kernel_rfl
 g4 := by kernel_rfl }
open Go.RowKit in
theorem Tryz.strings_TrimLeft_one (s : ByteArray) (c : UInt8) (hc : c.toNat < 128) (w : World) :
 Calls Tryz.prog 103 #[.string s, .string ⟨#[c]⟩] w fun e w' => e = .returned (.string ⟨(Lib.trimLeftB s.data.toList c).toArray⟩) ∧ w' = w := Any.strings_TrimLeft_one Tryz.lays161 s c hc w
open Go.RowKit in
theorem Tryz.Builder_String_any_f (B b : Nat) (l : List UInt8) (w : World) (h : Lib.IsBuilderF 196 5 B b (Lib.byteCells l) w) (hBw : B ≤ w.heap.size) :
 Calls Tryz.prog 142 #[.pointer (some ⟨b, 0, none⟩)] w fun e w' => e = .returned (.string ⟨l.toArray⟩) ∧ (Lib.IsBuilderF 196 5 B b (Lib.byteCells l) w' ∧ Below B w w') := Any.Builder_String_any_f Tryz.lays169 Tryz.Builder_Extra_169 B b l w h hBw
def Tryz.laysC174_ren : Go.Shelf.Ren := ⟨fun | 174 => 140 | 247 => 159 | 245 => 160 | 287 => 180 | 279 => 181 | 280 => 182 | 281 => 183 | 282 => 184 | 321 => 197 | 322 => 198 | 316 => 199 | 171 => 201 | 205 => 200 | 243 => 217 | 246 => 226 | 283 => 242 | 284 => 243 | 285 => 244 | 286 => 245 | 129 => 214 | 317 => 254 | 318 => 255 | 319 => 256 | 320 => 257 | 337 => 259 | 338 => 260 | n => n, fun | 9 => 9 | 3 => 3 | 2 => 2 | 75 => 190 | 85 => 191 | 4 => 4 | 167 => 228 | 5 => 5 | 53 => 229 | 175 => 230 | 46 => 213 | 168 => 232 | 37 => 194 | 0 => 0 | 210 => 249 | 21 => 21 | 127 => 208 | 145 => 267 | 143 => 265 | 171 => 289 | 173 => 291 | 212 => 302 | 51 => 263 | 20 => 20 | 213 => 303 | 232 => 309 | 233 => 310 | 80 => 197 | n => n, fun | 15 => 2 | 16 => 3 | 17 => 5 | 18 => 6 | 19 => 7 | n => n⟩
theorem Tryz.laysC174 : Go.Proofs.LaysC.n174 Tryz.prog Tryz.laysC174_ren := {
 mixed := by kernel_rfl
 f129 := Tryz.func214.trans (congrArg some (by kernel_rfl))
 f171 := Tryz.func201.trans (congrArg some (by kernel_rfl))
 f174 := Tryz.func140.trans (congrArg some (by kernel_rfl))
 f205 := Tryz.func200.trans (congrArg some (by kernel_rfl))
 f243 := Tryz.func217.trans (congrArg some (by kernel_rfl))
 f245 := Tryz.func160.trans (congrArg some (by kernel_rfl))
 f246 := Tryz.func226.trans (congrArg some (by kernel_rfl))
 f247 := Tryz.func159.trans (congrArg some (by kernel_rfl))
 f279 := Tryz.func181.trans (congrArg some (by kernel_rfl))
 f280 := Tryz.func182.trans (congrArg some (by kernel_rfl))
 f281 := Tryz.func183.trans (congrArg some (by kernel_rfl))
 f282 := Tryz.func184.trans (congrArg some (by kernel_rfl))
 f283 := Tryz.func242.trans (congrArg some (by kernel_rfl))
 f284 := Tryz.func243.trans (congrArg some (by kernel_rfl))
 f285 := Tryz.func244.trans (congrArg some (by kernel_rfl))
 f286 := Tryz.func245.trans (congrArg some (by kernel_rfl))
 f287 := Tryz.func180.trans (congrArg some (by kernel_rfl))
 f316 := Tryz.func199.trans (congrArg some (by kernel_rfl))
 f317 := Tryz.func254.trans (congrArg some (by kernel_rfl))
 f318 := Tryz.func255.trans (congrArg some (by kernel_rfl))
 f319 := Tryz.func256.trans (congrArg some (by kernel_rfl))
 f320 := Tryz.func257.trans (congrArg some (by kernel_rfl))
 f321 := Tryz.func197.trans (congrArg some (by kernel_rfl))
 f322 := Tryz.func198.trans (congrArg some (by kernel_rfl))
 f337 := Tryz.func259.trans (congrArg some (by kernel_rfl))
 f338 := Tryz.func260.trans (congrArg some (by kernel_rfl))
 t0 := Tryz.underlying0
 a0 := Tryz.isAgg0
 z0 := Tryz.sizeOf0
 v0 := Tryz.zeroValue0
 t2 := Tryz.underlying2
 a2 := Tryz.isAgg2
 z2 := Tryz.sizeOf2
 v2 := Tryz.zeroValue2
 t3 := Tryz.underlying3
 a3 := Tryz.isAgg3
 z3 := Tryz.sizeOf3
 v3 := Tryz.zeroValue3
 t4 := Tryz.underlying4
 a4 := Tryz.isAgg4
 z4 := Tryz.sizeOf4
 v4 := Tryz.zeroValue4
 t5 := Tryz.underlying5
 a5 := Tryz.isAgg5
 z5 := Tryz.sizeOf5
 v5 := Tryz.zeroValue5
 t9 := Tryz.underlying9
 a9 := Tryz.isAgg9
 z9 := Tryz.sizeOf9
 v9 := Tryz.zeroValue9
 t20 := Tryz.underlying20
 a20 := Tryz.isAgg20
 z20 := Tryz.sizeOf20
 v20 := Tryz.zeroValue20
 t21 := Tryz.underlying21
 a21 := Tryz.isAgg21
 z21 := Tryz.sizeOf21
 v21 := Tryz.zeroValue21
 t37 := Tryz.underlying194
 a37 := Tryz.isAgg194
 z37 := Tryz.sizeOf194
 v37 := Tryz.zeroValue194
 t46 := Tryz.underlying213
 a46 := Tryz.isAgg213
 z46 := Tryz.sizeOf213
 v46 := Tryz.zeroValue213
 t51 := Tryz.underlying263
 a51 := Tryz.isAgg263
 z51 := Tryz.sizeOf263
 v51 := Tryz.zeroValue263
 t53 := Tryz.underlying229
 a53 := Tryz.isAgg229
 z53 := Tryz.sizeOf229
 v53 := Tryz.zeroValue229
 t75 := Tryz.underlying190
 a75 := Tryz.isAgg190
 z75 := Tryz.sizeOf190
 v75 := Tryz.zeroValue190
 t85 := Tryz.underlying191
 a85 := Tryz.isAgg191
 z85 := Tryz.sizeOf191
 v85 := Tryz.zeroValue191
 t127 := Tryz.underlying208
 a127 := Tryz.isAgg208
 z127 := Tryz.sizeOf208
 v127 := Tryz.zeroValue208
 t143 := Tryz.underlying265
 a143 := Tryz.isAgg265
 z143 := Tryz.sizeOf265
 v143 := Tryz.zeroValue265
 t145 := Tryz.underlying267
 a145 := Tryz.isAgg267
 z145 := Tryz.sizeOf267
 v145 := Tryz.zeroValue267
 t167 := Tryz.underlying228
 a167 := Tryz.isAgg228
 z167 := Tryz.sizeOf228
 v167 := Tryz.zeroValue228
 t168 := Tryz.underlying232
 a168 := Tryz.isAgg232
 z168 := Tryz.sizeOf232
 v168 := Tryz.zeroValue232
 t171 := Tryz.underlying289
 a171 := Tryz.isAgg289
 z171 := Tryz.sizeOf289
 v171 := Tryz.zeroValue289
 t173 := Tryz.underlying291
 a173 := Tryz.isAgg291
 z173 := Tryz.sizeOf291
 v173 := Tryz.zeroValue291
 t175 := Tryz.underlying230
 a175 := Tryz.isAgg230
 z175 := Tryz.sizeOf230
 v175 := Tryz.zeroValue230
 t210 := Tryz.underlying249
 a210 := Tryz.isAgg249
 z210 := Tryz.sizeOf249
 v210 := Tryz.zeroValue249
 t212 := Tryz.underlying302
 a212 := Tryz.isAgg302
 z212 := Tryz.sizeOf302
 v212 := Tryz.zeroValue302
 t213 := Tryz.underlying303
 a213 := Tryz.isAgg303
 z213 := Tryz.sizeOf303
 t232 := Tryz.underlying309
 a232 := Tryz.isAgg309
 z232 := Tryz.sizeOf309
 v232 := Tryz.zeroValue309
 t233 := Tryz.underlying310
 a233 := Tryz.isAgg310
 z233 := Tryz.sizeOf310
 v233 := Tryz.zeroValue310
 g15 := by kernel_rfl
 g16 := by kernel_rfl
 g17 := by kernel_rfl
 g18 := by kernel_rfl
 g19 := by kernel_rfl
 t80 := Tryz.underlying197
 a80 := Tryz.isAgg197
 z80 := Tryz.sizeOf197
 v80 := Tryz.zeroValue197
 i0 := by kernel_rfl
 i2 := by kernel_rfl
 i3 := by kernel_rfl
 i4 := by kernel_rfl
 i5 := by kernel_rfl
 i9 := by kernel_rfl
 i20 := by kernel_rfl
 i21 := by kernel_rfl
 i37 := by kernel_rfl
 i46 := by kernel_rfl
 i51 := by kernel_rfl
 i53 := by kernel_rfl
 i75 := by kernel_rfl
 i80 := by kernel_rfl
 i85 := by kernel_rfl
 i127 := by kernel_rfl
 i143 := by kernel_rfl
 i145 := by kernel_rfl
 i167 := by kernel_rfl
 i168 := by kernel_rfl
 i171 := by kernel_rfl
 i173 := by kernel_rfl
 i175 := by kernel_rfl
 i210 := by kernel_rfl
 i212 := by kernel_rfl
 i232 := by kernel_rfl
 i233 := by kernel_rfl
 m15 := by kernel_rfl
 m16 := by kernel_rfl
 m17 := by kernel_rfl
 m18 := by kernel_rfl
 m19 := by kernel_rfl
 c0 := by kernel_rfl
 c2 := by kernel_rfl
 c3 := by kernel_rfl
 c4 := by kernel_rfl
 c5 := by kernel_rfl
 c9 := by kernel_rfl
 c20 := by kernel_rfl
 c21 := by kernel_rfl
 c37 := by kernel_rfl
 c46 := by kernel_rfl
 c51 := by kernel_rfl
 c53 := by kernel_rfl
 c75 := by kernel_rfl
 c80 := by kernel_rfl
 c85 := by kernel_rfl
 c127 := by kernel_rfl
 c143 := by kernel_rfl
 c145 := by kernel_rfl
 c167 := by kernel_rfl
 c168 := by kernel_rfl
 c171 := by kernel_rfl
 c173 := by kernel_rfl
 c175 := by kernel_rfl
 c210 := by kernel_rfl
 c212 := by kernel_rfl
 c213 := by kernel_rfl
 c232 := by kernel_rfl
 c233 := by kernel_rfl }
open Go.RowKit in
theorem Tryz.strconv_ParseInt_10_at64_ok (s : ByteArray) (hmax : s.size ≤ 9223372036854775806) (v : Int) (h : Lib.parseIntB 64 s.data.toList = .ok v) (w : World) :
 Calls Tryz.prog 140 #[.string s, .int .i64 10, .int .i64 64] w fun e w' => e = .returned (.tuple #[.int .i64 v, .nilIface]) ∧ (w' = w ∨ ∃ t, w' = Lib.bytesWorld w 5 t) := Any.strconv_ParseInt_10_at64_ok Tryz.laysC174 s hmax v h w
open Go.RowKit in
theorem Tryz.strconv_ParseInt_10_at64_syntax (s : ByteArray) (hlim : s.size ≤ 281474976710656) (h : Lib.parseIntB 64 s.data.toList = Lib.NumEnd.syntax) (ev : Value) (w : World) (hv : w.cell? ⟨2, 0, none⟩ = some ev) (hev : ev = .nilIface ∨ ∃ te pe, ev = .iface te pe) :
 Calls Tryz.prog 140 #[.string s, .int .i64 10, .int .i64 64] w fun e w' => ∃ N, e = .returned (.tuple #[.int .i64 (0), .iface 232 (.pointer (some ⟨N, 0, none⟩))]) ∧ w.heap.size ≤ N ∧ w'.heap[N]? = some (.cells #[.string ⟨#[80, 97, 114, 115, 101, 73, 110, 116]⟩, .string s, ev] 249 (0, 0)) ∧ Below w.heap.size w w' := Any.strconv_ParseInt_10_at64_syntax Tryz.laysC174 s hlim h ev w hv hev
open Go.RowKit in
theorem Tryz.strconv_ParseInt_10_at64_range (s : ByteArray) (hlim : s.size ≤ 281474976710656) (h : Lib.parseIntB 64 s.data.toList = .range) (ev : Value) (w : World) (hv : w.cell? ⟨3, 0, none⟩ = some ev) (hev : ev = .nilIface ∨ ∃ te pe, ev = .iface te pe) :
 Calls Tryz.prog 140 #[.string s, .int .i64 10, .int .i64 64] w fun e w' => ∃ N, e = .returned (.tuple #[.int .i64 (Lib.intSat 64 s.data.toList), .iface 232 (.pointer (some ⟨N, 0, none⟩))]) ∧ w.heap.size ≤ N ∧ w'.heap[N]? = some (.cells #[.string ⟨#[80, 97, 114, 115, 101, 73, 110, 116]⟩, .string s, ev] 249 (0, 0)) ∧ Below w.heap.size w w' := Any.strconv_ParseInt_10_at64_range Tryz.laysC174 s hlim h ev w hv hev
def Tryz.laysGw15_ren : Go.Shelf.Ren := ⟨fun | 15 => 138 | 20 => 158 | n => n, fun | 9 => 9 | 23 => 188 | 3 => 3 | 4 => 4 | 0 => 0 | 21 => 21 | n => n, fun | n => n⟩
theorem Tryz.laysGw15 : Go.Proofs.LaysGw.n15 Tryz.prog Tryz.laysGw15_ren := {
 mixed := by kernel_rfl
 f15 := Tryz.func138.trans (congrArg some (by kernel_rfl))
 f20 := Tryz.func158.trans (congrArg some (by kernel_rfl))
 t0 := Tryz.underlying0
 a0 := Tryz.isAgg0
 z0 := Tryz.sizeOf0
 v0 := Tryz.zeroValue0
 i0 := by kernel_rfl
 t3 := Tryz.underlying3
 a3 := Tryz.isAgg3
 z3 := Tryz.sizeOf3
 v3 := Tryz.zeroValue3
 i3 := by kernel_rfl
 t4 := Tryz.underlying4
 a4 := Tryz.isAgg4
 z4 := Tryz.sizeOf4
 v4 := Tryz.zeroValue4
 i4 := by kernel_rfl
 t9 := Tryz.underlying9
 a9 := Tryz.isAgg9
 z9 := Tryz.sizeOf9
 v9 := Tryz.zeroValue9
 i9 := by kernel_rfl
 t21 := Tryz.underlying21
 a21 := Tryz.isAgg21
 z21 := Tryz.sizeOf21
 v21 := Tryz.zeroValue21
 i21 := by kernel_rfl
 t23 := Tryz.underlying188
 a23 := Tryz.isAgg188
 z23 := Tryz.sizeOf188
 v23 := Tryz.zeroValue188
 i23 := by kernel_rfl }
open Go.RowKit Go.Lib in
theorem Tryz.strings_IndexFunc_grows (g : Nat) (lb : Array Value) (eg : ∀ args w, (callFunc g args).run Tryz.prog w = .ok (.enter g args) w) (p : Nat → Bool) (s : ByteArray) (w : World) (hp : PredGrows Tryz.prog g lb p w) :
 Calls Tryz.prog 138 #[.string s, .func (.func g) #[] lb] w fun e w' => e = .returned (.int .i64 (Lib.idxFunc p true s)) ∧ Below w.heap.size w w' := Any.strings_IndexFunc_grows Tryz.laysGw15 g lb eg p s w hp
end Go.Proofs
namespace Go.Proofs.YtadgfojhjnkliaaGreatDoor
open Go.RowKit
theorem fR (l : List UInt8) (w : World) : Calls Tryz.prog 103 #[str l, str [32]] w fun e w' => e = .returned (str (LR l)) ∧ w = w' := by
 refine (Tryz.strings_TrimLeft_one ⟨l.toArray⟩ 32 (by decide) w).mono ?_
 rintro e w' ⟨rfl, rfl⟩
 exact ⟨rfl, rfl⟩
def MI (l : List UInt8) : Int × Bool := match Lib.parseIntB 64 l with
 | .ok v => (v, true)
 | .syntax => (0, false)
 | .range => (Lib.intSat 64 l, false)
def bP (w : World) : Prop := (∃ t p, w.cell? ⟨2, 0, none⟩ = some (.iface t p)) ∧ ∃ t p, w.cell? ⟨3, 0, none⟩ = some (.iface t p)
def tK (ok : Bool) (v : Value) : Prop := (ok = true ∧ v = .nilIface) ∨ (ok = false ∧ ∃ t p, v = .iface t (.pointer p))
theorem nA (l : List UInt8) (w : World) (hl : l.length ≤ 281474976710656) (hE : bP w) : Calls Tryz.prog 140 #[str l, .int .i64 10, .int .i64 64] w fun e w' => ∃ v, e = .returned (.tuple #[.int .i64 (MI l).1, v]) ∧ tK (MI l).2 v ∧ Fr0 w w' := by
 have hs : (ByteArray.mk l.toArray).size = l.length := by show l.toArray.size = _; simp
 have hd : (ByteArray.mk l.toArray).data.toList = l := rfl
 obtain ⟨⟨t, p, h1⟩, t', p', h2⟩ := hE
 cases hq : Lib.parseIntB 64 l with
 | ok v =>
  refine (Tryz.strconv_ParseInt_10_at64_ok ⟨l.toArray⟩ (by omega) v (by rw [hd]; exact hq) w).mono ?_
  rintro e w' ⟨rfl, hw⟩
  refine ⟨.nilIface, by unfold MI; rw [hq], .inl ⟨by unfold MI; rw [hq], rfl⟩, ?_⟩
  rcases hw with rfl | ⟨t, rfl⟩
  ·exact Fr.refl
  ·exact Fr.ofBelow (Lib.bytesWorld_below w _ t)
 | range =>
  refine (Tryz.strconv_ParseInt_10_at64_range ⟨l.toArray⟩ (by omega) (by rw [hd]; exact hq) _ w h2 (.inr ⟨t', p', rfl⟩)).mono ?_
  rintro e w' ⟨N, rfl, _, _, hb⟩
  exact ⟨_, by unfold MI; rw [hq, hd], .inr ⟨by unfold MI; rw [hq], _, _, rfl⟩, Fr.ofBelow hb⟩
 | _ =>
  refine (Tryz.strconv_ParseInt_10_at64_syntax ⟨l.toArray⟩ (by omega) (by rw [hd]; exact hq) _ w h1 (.inr ⟨t, p, rfl⟩)).mono ?_
  rintro e w' ⟨N, rfl, _, _, hb⟩
  exact ⟨_, by unfold MI; rw [hq], .inr ⟨by unfold MI; rw [hq], _, _, rfl⟩, Fr.ofBelow hb⟩
theorem fA {e : Env} {w : World} {o : Oper} {t' : Nat} {x : Operand} {v : Value} {ok : Bool} (ho : o.op = .binOp .neq 190 x (.const .nilIface) t') (hx : ev e x = some v) (hv : tK ok v) : Y Tryz.prog e o w (.bool (!ok)) := fun ρ h => by
 have hc : ρ (.const .nilIface) = .nilIface := h _ _ rfl
 rcases hv with ⟨rfl, rfl⟩ | ⟨rfl, t, p, rfl⟩
 ·have h1 : (Op.equal 190 .nilIface .nilIface).run Tryz.prog w = .ok true w := by
   unfold Op.equal Op.maxDepth Op.equalIn
   simp [run_underlying Tryz.underlying190]
  unfold execOp
  simp [ho, h _ _ hx, hc, eqGuard_nil_constR, binOp, h1]
 ·have h1 : (Op.equal 190 (.iface t (.pointer p)) .nilIface).run Tryz.prog w = .ok false w := by
   unfold Op.equal Op.maxDepth Op.equalIn
   simp [run_underlying Tryz.underlying190]
  unfold execOp
  simp [ho, h _ _ hx, hc, eqGuard_at_iface, binOp, h1]
def KU (is : UInt8 → Bool) (x : Nat) : Bool := decide (127 < x) || !(is (UInt8.ofNat x))
theorem gH (is : UInt8 → Bool) (x : Nat) : (decide ((127 : Int) < (x : Int)) || (!(is (UInt8.ofNat x)))) = KU is x := by
 unfold KU
 by_cases h : 127 < x
 ·simp [h, show (127 : Int) < (x : Int) by omega]
 ·simp [h, show ¬ (127 : Int) < (x : Int) by omega]
theorem lX {x : Nat} : (IntKind.u8).wrap (x : Int) = ((UInt8.ofNat x).toNat : Int) := by
 simp [IntKind.wrap, IntKind.bits, IntKind.signed]
def JR (is : UInt8 → Bool) (l : List UInt8) : Int := Lib.idxFunc (KU is) true ⟨l.toArray⟩
def spanP (is : UInt8 → Bool) (l : List UInt8) : Nat := if JR is l < 0 then l.length else (JR is l).toNat
theorem gL (is : UInt8 → Bool) (l : List UInt8) : JR is l < l.length := by
 have h := Lib.idxFuncFrom_range (KU is) true ⟨l.toArray⟩ (ByteArray.mk l.toArray).size 0
 have hs : (ByteArray.mk l.toArray).size = l.length := by show l.toArray.size = _; simp
 rcases h with h | ⟨_, h⟩
 ·unfold JR Lib.idxFunc; rw [h]; omega
 ·unfold JR Lib.idxFunc; omega
theorem MB (is : UInt8 → Bool) (l : List UInt8) : spanP is l ≤ l.length := by
 unfold spanP; have := gL is l; split <;> omega
theorem gJ {is : UInt8 → Bool} {l : List UInt8} (h : JR is l < 0) : spanP is l = l.length := if_pos h
theorem gK {is : UInt8 → Bool} {l : List UInt8} (h : ¬ JR is l < 0) : JR is l = ((spanP is l : Nat) : Int) := by
 unfold spanP; rw [if_neg h]; omega
theorem gM (is : UInt8 → Bool) (g : FuncId) (hfn : ∀ (ar : Array Value) (w : World), (callFunc g ar).run Tryz.prog w = .ok (.enter g ar) w) (hc : ∀ (b : UInt8) (w : World), Calls Tryz.prog g #[.int .u8 (b.toNat : Int)] w fun e w' => e = .returned (.bool (is b)) ∧ Fr0 w w') (x : Nat) (g3 : Nat) (w : World) (hb : Blk w g3 158 [.func (.func g) #[] #[]]) :
 Calls Tryz.prog 139 #[.int .i32 (x : Int), .pointer (some ⟨g3, 0, none⟩)] w fun e w' => e = .returned (.bool (KU is x)) ∧ Fr0 w w' := by
 refine AL (vs := [_, _]) Tryz.func139 rfl Tryz.ntmps139 rfl ?_
 have M := CM w
 refine A9 (A0 (yb rfl (A1 (A2 (A9 (A0 (yb rfl (ya rfl (FR rfl rfl rfl) (yb rfl (AV 6 [(3, .bool false), (12, .bool ((decide ((127 : Int) < (x : Int))) || (!(is (UInt8.ofNat x)))))] (fun w' => Mem w AB [] w') ?_ (fun k6 => ?_)))))))))))
 ·intro w1 M
  exact yb rfl (A1 (A2 (AE (AI rfl rfl ⟨by rw [gH], M.fr⟩))))
 refine AF (d := 6) (b := (decide ((127 : Int) < (x : Int)))) rfl (fun h6 => ?_) (fun h6 => ?_)
 ·iterate 5 refine yo rfl ?_
  exact yb rfl (k6 _ _ M ⟨rfl, (by rw [h6]; rfl), trivial⟩)
 ·refine ym rfl rfl (Blk.c (hb.fr0 M.fr) 0 rfl) (yd rfl (yp rfl) (yd rfl (bT (r := ((UInt8.ofNat x).toNat : Int)) rfl rfl Tryz.underlying21 Tryz.underlying5 lX) (AC (some 10) (BA rfl rfl rfl) rfl rfl (C3 rfl rfl rfl hfn) (hc _ _) ?_)))
  rintro _ w2 ⟨rfl, hfw2⟩
  refine ⟨_, rfl, ?_⟩
  have M := M.step hfw2
  exact yd rfl (yp rfl) (yb rfl (k6 _ _ M ⟨rfl, (by rw [h6]; rfl), trivial⟩))
theorem rH (is : UInt8 → Bool) (g : FuncId) (hfn : ∀ (ar : Array Value) (w : World), (callFunc g ar).run Tryz.prog w = .ok (.enter g ar) w) (hc : ∀ (b : UInt8) (w : World), Calls Tryz.prog g #[.int .u8 (b.toNat : Int)] w fun e w' => e = .returned (.bool (is b)) ∧ Fr0 w w') (l : List UInt8) (g3 : Nat) (w : World) (hb : Blk w g3 158 [.func (.func g) #[] #[]]) :
 Calls Tryz.prog 138 #[str l, .func (.func 139) #[] #[.pointer (some ⟨g3, 0, none⟩)]] w fun e w' => e = .returned (.int .i64 (JR is l)) ∧ Fr0 w w' := by
 refine (Tryz.strings_IndexFunc_grows 139 #[.pointer (some ⟨g3, 0, none⟩)] Tryz.call139 (KU is) ⟨l.toArray⟩ w ?_).mono ?_
 ·intro W x _ hbW
  exact (gM is g hfn hc x g3 W (hb.fr0 (Fr.ofBelow hbW))).mono fun _ _ ⟨h1, h2⟩ => ⟨h1, h2.below⟩
 ·rintro e w' ⟨rfl, hb'⟩
  exact ⟨rfl, Fr.ofBelow hb'⟩
theorem ZO (is : UInt8 → Bool) (g : FuncId) (hfn : ∀ (ar : Array Value) (w : World), (callFunc g ar).run Tryz.prog w = .ok (.enter g ar) w) (hc : ∀ (b : UInt8) (w : World), Calls Tryz.prog g #[.int .u8 (b.toNat : Int)] w fun e w' => e = .returned (.bool (is b)) ∧ Fr0 w w') (l : List UInt8) (w : World) :
 Calls Tryz.prog 105 #[str l, .func (.func g) #[] #[]] w fun e w' => e = .returned (.int .i64 ((spanP is l : Nat) : Int)) ∧ Fr0 w w' := by
 refine AL (vs := [_, _]) Tryz.func105 rfl Tryz.ntmps105 rfl ?_
 have M := CM w
 refine A9 (A0 (BG M (A4 rfl) rfl rfl 158 rfl rfl ([.func (.func g) #[] #[]]) rfl fun g3 w1 hg3 M => yb rfl (A1 (A2 (A9 (A0 (yb rfl (ya rfl (CT (us := []) (vs := [.pointer (some ⟨g3, 0, none⟩)]) rfl rfl rfl) (AC (some 8) (A4 rfl) rfl rfl (AG rfl rfl Tryz.call138) (rH is g hfn hc l _ _ (M.blk 0 rfl)) ?_)))))))))
 rintro _ w9 ⟨rfl, hf9⟩
 refine ⟨_, rfl, ?_⟩
 have M := M.step hf9
 refine yb rfl (A1 (A2 (A9 (A9 (A0 (yb rfl (ya rfl (CJ rfl rfl rfl) (A1 (A2 (AR (b := (decide ((JR is l) < (0 : Int)))) rfl (fun h10 => ?_) (fun h10 => ?_)))))))))))
 ·have h10p := (of_decide_eq_true h10)
  exact A9 (A0 (yb rfl (ya rfl (EO rfl rfl Tryz.underlying9) (yb rfl (A1 (A2 (AE (AA (AI rfl rfl ⟨by rw [gJ h10p], M.fr⟩)))))))))
 ·have h10p := (of_decide_eq_false h10)
  exact AM (A2 (A9 (A0 (yb rfl (yb rfl (A1 (A2 (AE (AI rfl rfl ⟨by rw [gK h10p], M.fr⟩)))))))))
def nGlob : Nat := max (max 0 1) (max 2 3) + 1
structure Lay0 (w : World) : Prop where
 utf : Laid w utfL
 err : bP w
 size : nGlob ≤ w.heap.size
theorem W1 : (Nat.blt 0 nGlob && (Nat.blt 1 nGlob && (Nat.blt 2 nGlob && Nat.blt 3 nGlob))) = true := by kernel_rfl
theorem Lay0.fr {S : Nat → Prop} {w w' : World} (h : Lay0 w) (hf : Fr S w w') (hS : ∀ k, S k → nGlob ≤ k) : Lay0 w' := by
 have hn := W1
 simp only [Bool.and_eq_true] at hn
 obtain ⟨n1, n2, n3, n4⟩ := hn
 replace n1 := B5 n1
 replace n2 := B5 n2
 replace n3 := B5 n3
 replace n4 := B5 n4
 have no : ∀ g, g < nGlob → ¬ S g := fun g hg hs => by have := hS g hs; omega
 refine ⟨fun p hp => ?_, ?_, Nat.le_trans h.size hf.size⟩
 ·obtain ⟨el, fz, h1⟩ := h.utf p hp
  have hp1 : p.1 < nGlob := by
   simp only [utfL, List.mem_cons, List.not_mem_nil, or_false] at hp
   rcases hp with rfl | rfl
   ·exact n1
   ·exact n2
  exact ⟨el, fz, (hf.block _ (Array.getElem?_eq_some_iff.1 h1).1 (no _ hp1)).trans h1⟩
 ·obtain ⟨t, p, h1⟩ := h.err.1
  obtain ⟨t', p', h2⟩ := h.err.2
  exact ⟨⟨t, p, (hf.cell (World.block_lt_of_cell? w _ h1) (no _ n3)).trans h1⟩, t', p', (hf.cell (World.block_lt_of_cell? w _ h2) (no _ n4)).trans h2⟩
theorem OL {l : List UInt8} {c : UInt8} (h : l[0]? = some c) : l.headD 0 = c := by cases l <;> simp_all
theorem SQ {a b : Prop} (h : ¬ a ∨ ¬ b) : ¬ (a ∧ b) := fun ⟨h1, h2⟩ => h.elim (fun h => h h1) (fun h => h h2)
def GA (t : List UInt8) (x : Lx) : Lx :=
 if ((t.headD 0).toNat : Int) = 48 ∧ (1 : Int) < ((t.length : Nat) : Int) then x.fail 4 x.at_
 else if (MI t).2 = true then { x with nd := .lit ⟨1, (MI t).1, false, []⟩ }
 else { (x.fail 91 x.at_) with nd := .lit ⟨1, (MI t).1, false, []⟩ }
def qt : List UInt8 → List UInt8 → Option (List UInt8 × Nat)
 | _, [] => none
 | b, [c] => if (c.toNat : Int) = 39 then some (b, 0) else none
 | b, c :: d :: r => if (c.toNat : Int) = 39 then (if (d.toNat : Int) = 39 then qt (b ++ [d]) r else some (b, r.length + 1)) else qt (b ++ [c]) (d :: r)
theorem hH {l b : List UInt8} {i : Nat} {c : UInt8} (hc : l[i]? = some c) (h : ¬ (c.toNat : Int) = 39) : qt b (l.drop i) = qt (b ++ [c]) (l.drop (i + 1)) := by
 rw [BJ hc]
 cases l.drop (i + 1) with
 | nil => rw [show qt b [c] = if (c.toNat : Int) = 39 then some (b, 0) else none from rfl, if_neg h]; rfl
 | cons d r => rw [qt, if_neg h]
theorem gZ {l b : List UInt8} {i : Nat} {c d : UInt8} (hc : l[i]? = some c) (hd : l[i + 1]? = some d) (h : (c.toNat : Int) = 39) (h2 : (d.toNat : Int) = 39) : qt b (l.drop i) = qt (b ++ [d]) (l.drop (i + 2)) := by
 rw [BJ hc, BJ hd, qt, if_pos h, if_pos h2]
theorem hX {l b : List UInt8} {i : Nat} {c : UInt8} (hc : l[i]? = some c) (h : (c.toNat : Int) = 39) (he : ((i + 1 : Nat) : Int) = ((l.length : Nat) : Int)) : qt b (l.drop i) = some (b, l.length - (i + 1)) := by
 have he' : i + 1 = l.length := by omega
 rw [BJ hc, he', List.drop_length, qt, if_pos h, Nat.sub_self]
theorem ZS {l b : List UInt8} {i : Nat} {c d : UInt8} (hc : l[i]? = some c) (hd : l[i + 1]? = some d) (h : (c.toNat : Int) = 39) (h2 : ¬ (d.toNat : Int) = 39) : qt b (l.drop i) = some (b, l.length - (i + 1)) := by
 have hlt := (List.getElem?_eq_some_iff.1 hd).1
 rw [BJ hc, BJ hd, qt, if_pos h, if_neg h2]
 congr 2
 rw [List.length_drop]; omega
def GU (l : List UInt8) (x : Lx) : Lx := match qt [] l.tail with
 | some (b, k) => if utf b = true then { x with nd := .lit ⟨3, 0, false, b⟩, at_ := x.at_ + (l.length - k) } else x.fail 4 x.at_
 | none => x.fail 4 x.at_
theorem VF {l b : List UInt8} {x : Lx} {i : Nat} (hi : i ≤ l.length) (h : qt [] l.tail = some (b, l.length - i)) (hu : utf b = true) : GU l x = { x with nd := .lit ⟨3, 0, false, b⟩, at_ := x.at_ + i } := by
 unfold GU
 rw [h]
 simp only [if_pos hu]
 congr 2; omega
theorem SI {l b : List UInt8} {x : Lx} {k : Nat} (h : qt [] l.tail = some (b, k)) (hu : utf b = false) : GU l x = x.fail 4 x.at_ := by
 unfold GU
 rw [h]
 simp [hu]
theorem fU {l : List UInt8} {x : Lx} (h : qt [] l.tail = none) : GU l x = x.fail 4 x.at_ := by
 unfold GU
 rw [h]
theorem RR {T e : TypeId} {B b : Nat} {bs : List Value} {W W' : World} (h : Lib.IsBuilderF T e B b bs W) (hb : Below W.heap.size W W') : Lib.IsBuilderF T e B b bs W' :=
 have one : ∀ {p : Value}, Lib.BuilderAtF T e B b p bs W → Lib.BuilderAtF T e B b p bs W' := fun h => by
  have hlt := h.lt
  obtain ⟨hB, v, hv, hown, hne⟩ := h
  exact ⟨hB, v, (hb.block b hlt).trans hv, hown.kept (row := none) ⟨hb.os, hb.tape, hb.output, hb.size, fun k hk _ => hb.block k hk⟩ (Classical.em _), hne⟩
 h.elim (fun x => .inl (one x)) (fun x => .inr (one x))
theorem dW {w : World} {B g : Nat} (hB : B ≤ g) (hb : Blk w g 196 [.pointer none, .slice none 0 0]) : Lib.IsBuilder 196 5 B g (bvs []) w :=
 .inl ⟨hB, .slice none 0 0, hb, ⟨rfl, .inl ⟨rfl, rfl⟩⟩, by simp [Value.ownBlock]⟩
theorem Mem.belowOld {w w1 w2 : World} {S : Nat → Prop} {g t : Nat} {cs : List Value} (M : Mem w S [As.blk g t cs] w1) (hg : g < w.heap.size) (hb : Below w.heap.size w1 w2) : Mem w S [As.blk g t cs] w2 where
 fr := ⟨hb.os.trans M.fr.os, hb.tape.trans M.fr.tape, hb.output.trans M.fr.output, Nat.le_trans M.fr.size hb.size, fun k hk hn => (hb.block k hk).trans (M.fr.block k hk hn)⟩
 ok i a hi := by
  cases i with
  | zero =>
   simp only [List.getElem?_cons_zero, Option.some.injEq] at hi; subst hi
   exact (hb.block g hg).trans (M.blk 0 rfl)
  | succ i => simp at hi
 lt i a hi k hk := by
  obtain ⟨h1, h2⟩ := M.lt i a hi k hk
  exact ⟨Nat.lt_of_lt_of_le h1 hb.size, h2⟩
 apart := M.apart
theorem JC (a0 : Int) (a1 : Int) : Tryz.prog.built 67 [(0, .int .u8 a0), (1, .int .i64 a1)] = some #[.int .u8 a0, .int .i64 a1, .bool false, str []] := by kernel_rfl
theorem JB (a0 : Int) (a3 : List UInt8) : Tryz.prog.built 67 [(0, .int .u8 a0), (3, str a3)] = some #[.int .u8 a0, .int .i64 0, .bool false, str a3] := by kernel_rfl
theorem LD : (Tryz.prog.info? 196).map (·.zero) = some (some (.agg #[.pointer none, .slice none 0 0])) := by kernel_rfl
theorem iX (s : List UInt8) (x : Lx) (gx : Nat) (t : List UInt8) (w : World) (hb : Blk w gx 104 (Lx.cells s x)) (ht : 0 < t.length) (hl : t.length ≤ 281474976710656) (hY : Lay0 w) (hgx : nGlob ≤ gx) :
 Calls Tryz.prog 106 #[.pointer (some ⟨gx, 0, none⟩), str t] w fun e w' => e = .returned (.tuple #[]) ∧ Blk w' gx 104 (Lx.cells s (GA t x)) ∧ Fr (fun k => k = gx) w w' := by
 have hGx : ∀ k, k = gx → nGlob ≤ k := fun _ e => e ▸ hgx
 refine AL (vs := [_, _]) Tryz.func106 rfl Tryz.ntmps106 rfl ?_
 have M : Mem w (fun k => k = gx) [As.blk gx 104 (Lx.cells s x)] w := Mem.one hb
 refine A9 (A9 (A0 (yb rfl ?_)))
 obtain ⟨c, hc⟩ := DY (l := t) (i := 0) (by omega)
 refine ya rfl (F5 rfl rfl rfl Tryz.underlying9 hc) (ya rfl (BC rfl rfl rfl) (yb rfl (AV 4 [(1, str t), (0, .pointer (some ⟨gx, 0, none⟩)), (13, .bool ((decide ((c.toNat : Int) = (48 : Int))) && (decide ((1 : Int) < ((t.length : Nat) : Int)))))] (fun w' => Mem w (fun k => k = gx) [As.blk gx 104 (Lx.cells s x)] w') ?_ (fun k9 => ?_))))
 ·intro w1 M
  refine A1 (A2 (AR (b := ((decide ((c.toNat : Int) = (48 : Int))) && (decide ((1 : Int) < ((t.length : Nat) : Int))))) rfl (fun h13 => ?_) (fun h13 => ?_)))
  ·have h13p := (And.intro (of_decide_eq_true (C8 h13).1) (of_decide_eq_true (C8 h13).2))
   refine A9 (A0 ?_)
   iterate 4 refine yb rfl ?_
   refine yl rfl rfl (M.cell 0 rfl rfl) (AC (some 19) (A4 rfl) rfl rfl (AG rfl rfl Tryz.call49) (EC s x _ _ _ _ (M.blk 0 rfl)) ?_)
   rintro _ w2 ⟨rfl, hbw2, hfw2⟩
   have M := M.putB 0 rfl hbw2 hfw2
   exact ⟨_, rfl, A1 (A2 (AE (AA (DC (Or.inl rfl) rfl ⟨rfl, by rw [GA, OL hc, if_pos h13p]; exact M.blk 0 rfl, M.fr⟩))))⟩
  ·have h13p := ((E9 h13).imp (fun z => (of_decide_eq_false z)) (fun z => (of_decide_eq_false z)))
   refine AM (A2 (A9 (A0 (yb rfl (AC (some 22) (A4 rfl) rfl rfl (AG rfl rfl Tryz.call140) (nA t _ (by omega) (hY.fr M.fr hGx).err) ?_)))))
   rintro _ w3 ⟨er, rfl, her, hfw3⟩
   refine ⟨_, rfl, ?_⟩
   have M := M.step hfw3
   iterate 5 refine yb rfl ?_
   refine A1 (A2 (A9 (A9 (A0 (yb rfl (ya rfl (fA rfl rfl her) (A1 (A2 (AR (b := (!(MI t).2)) rfl (fun h26 => ?_) (fun h26 => ?_))))))))))
   ·refine A0 ?_
    iterate 4 refine yb rfl ?_
    refine yl rfl rfl (M.cell 0 rfl rfl) (AC (some 32) (A4 rfl) rfl rfl (AG rfl rfl Tryz.call49) (EC s x _ _ _ _ (M.blk 0 rfl)) ?_)
    rintro _ w4 ⟨rfl, hbw4, hfw4⟩
    have M := M.putB 0 rfl hbw4 hfw4
    exact ⟨_, rfl, A1 (A2 (A0 (yb rfl (yb rfl (ya rfl (BS (parts := [(0, _), (1, _)]) rfl rfl (JC _ _)) (ya rfl (BS (parts := [(0, _), (1, _)]) rfl rfl (EE _ _ _ _ _)) (yb rfl (yb rfl (yb rfl (B8 (cs' := [str s, .int .i64 (((x.fail 91 x.at_).at_ : Nat) : Int), .int .u8 1, .int .u8 1, .int .i64 ((MI t).1), .bool false, str [], str [], .slice none 0 0, str ((x.fail 91 x.at_).say), .int .i64 (((x.fail 91 x.at_).tat : Nat) : Int), .bool ((x.fail 91 x.at_).fin), .int .i64 ((x.fail 91 x.at_).e), .int .i64 (((x.fail 91 x.at_).wh : Nat) : Int)]) M 0 (A4 rfl) rfl rfl rfl rfl rfl AN rfl (AQ rfl) (B3 rfl) rfl fun w5 M => A1 (DC (Or.inr rfl) rfl ⟨rfl, by rw [GA, OL hc, if_neg (SQ h13p), if_neg (BD (C4 h26))]; exact M.blk 0 rfl, M.fr⟩)))))))))))⟩
   ·exact AM (A2 (A0 (yb rfl (yb rfl (ya rfl (BS (parts := [(0, _), (1, _)]) rfl rfl (JC _ _)) (ya rfl (BS (parts := [(0, _), (1, _)]) rfl rfl (EE _ _ _ _ _)) (yb rfl (yb rfl (yb rfl (B8 (cs' := [str s, .int .i64 ((x.at_ : Nat) : Int), .int .u8 1, .int .u8 1, .int .i64 ((MI t).1), .bool false, str [], str [], .slice none 0 0, str x.say, .int .i64 ((x.tat : Nat) : Int), .bool x.fin, .int .i64 x.e, .int .i64 ((x.wh : Nat) : Int)]) M 0 (A4 rfl) rfl rfl rfl rfl rfl AN rfl (AQ rfl) (B3 rfl) rfl fun w6 M => A1 (DC (Or.inr rfl) rfl ⟨rfl, by rw [GA, OL hc, if_neg (SQ h13p), if_pos (C6 h26)]; exact M.blk 0 rfl, M.fr⟩)))))))))))
 refine AF (d := 9) (b := (decide ((c.toNat : Int) = (48 : Int)))) rfl (fun h9 => ?_) (fun h9 => ?_)
 ·exact yd rfl (yp rfl) (yd rfl (EO rfl rfl Tryz.underlying9) (yd rfl (FR rfl rfl rfl) (yb rfl (k9 _ _ M ⟨rfl, rfl, (by rw [h9]; rfl), trivial⟩))))
 ·exact yo rfl (yo rfl (yo rfl (yb rfl (k9 _ _ M ⟨rfl, rfl, (by rw [h9]; rfl), trivial⟩))))
theorem dP (s : List UInt8) (x : Lx) (gx : Nat) (l : List UInt8) (w : World) (hb : Blk w gx 104 (Lx.cells s x)) (hn : 0 < l.length) (hl : l.length + x.at_ ≤ 70368744177664) (hY : Lay0 w) (hgx : nGlob ≤ gx) :
 Calls Tryz.prog 110 #[.pointer (some ⟨gx, 0, none⟩), str l] w fun e w' => e = .returned (.tuple #[]) ∧ Blk w' gx 104 (Lx.cells s (GU l x)) ∧ Fr (fun k => k = gx) w w' := by
 have hGx : ∀ k, k = gx → nGlob ≤ k := fun _ e => e ▸ hgx
 have hlt : gx < w.heap.size := hb.lt
 refine AL (vs := [_, _]) Tryz.func110 rfl Tryz.ntmps110 rfl ?_
 have M : Mem w (fun k => k = gx) [As.blk gx 104 (Lx.cells s x)] w := Mem.one hb
 refine A9 (A0 (BL M (A4 rfl) rfl rfl 196 rfl [.pointer none, .slice none 0 0] LD rfl fun g4 w1 hg4 M => ?_))
 have hbu : Lib.IsBuilder 196 5 w.heap.size g4 (bvs []) w1 := dW (by have := M.fr.size; omega) (M.blk 0 rfl)
 have M := M.drop 1
 replace M : Mem w (fun k => k = gx) [As.blk gx 104 (Lx.cells s x)] w1 := M
 refine A1 (A2 (A9 (A9 (A0 (yb rfl (A1 (A2 (AZ (CO (fun e wr mz => ∃ (i : Nat) (b : List UInt8), e = [(0, .pointer (some ⟨gx, 0, none⟩)), (1, str l), (4, .pointer (some ⟨g4, 0, none⟩)), (5, .int .i64 ((i : Nat) : Int))] ∧ Mem w (fun k => k = gx) [As.blk gx 104 (Lx.cells s x)] wr ∧ (1 ≤ i ∧ i ≤ l.length) ∧ (b.length ≤ i) ∧ (Lib.IsBuilder 196 5 w.heap.size g4 (bvs b) wr) ∧ (qt [] l.tail = qt b (l.drop i)) ∧ mz = l.length - i) ⟨1, [], rfl, M, ⟨Nat.le_refl _, by omega⟩, Nat.zero_le _, hbu, by rw [List.drop_one], rfl⟩ ⟨rfl, rfl, rfl, rfl, trivial⟩ ?_)))))))))
 rintro _ w2 _ ⟨i, b, rfl, M, hi, hbl, hbu, hq, rfl⟩
 refine A9 (A9 (A0 (yb rfl (yb rfl (ya rfl (EO rfl rfl Tryz.underlying9) (ya rfl (CJ rfl rfl rfl) (A1 (A2 (AR (b := (decide (((i : Nat) : Int) < ((l.length : Nat) : Int)))) rfl (fun h9 => ?_) (fun h9 => ?_))))))))))
 ·have h9p := (of_decide_eq_true h9)
  refine AM (A2 (A9 (AZ (A9 (A9 (A0 (yb rfl (yb rfl ?_))))))))
  obtain ⟨c, hc⟩ := DY (l := l) (i := i) (by omega)
  refine ya rfl (F5 rfl rfl rfl Tryz.underlying9 hc) (ya rfl (BC rfl rfl rfl) (A1 (A2 (AR (b := (decide ((c.toNat : Int) = (39 : Int)))) rfl (fun h15 => ?_) (fun h15 => ?_)))))
  ·have h15p := (of_decide_eq_true h15)
   refine A9 (A0 (yb rfl (ya rfl (CQ rfl rfl rfl (by omega)) (yb rfl (A1 (A2 (A9 (A0 (yb rfl (yb rfl (ya rfl (EO rfl rfl Tryz.underlying9) (ya rfl (BC rfl rfl rfl) (yb rfl (AF (d := 22) (b := (decide (((i + 1 : Nat) : Int) = ((l.length : Nat) : Int)))) rfl (fun h22 => ?_) (fun h22 => ?_)))))))))))))))
   ·have h22p := (of_decide_eq_true h22)
    iterate 4 refine yo rfl ?_
    refine yb rfl (A1 (A2 (DQ rfl (A9 (A9 (A0 ?_))))))
    have hbf := Lib.IsBuilderF.of hbu
    refine AC (some 28) (A4 rfl) rfl rfl (AG rfl rfl Tryz.call142) (Tryz.Builder_String_any_f w.heap.size g4 b _ hbf M.fr.size) ?_
    rintro _ w3 ⟨rfl, hbf, hBw3⟩
    refine ⟨_, rfl, ?_⟩
    have M := M.belowOld hlt hBw3
    refine AC (some 29) (A4 rfl) rfl rfl (AG rfl rfl Tryz.call117) (JG _ _ (by omega) (hY.fr M.fr hGx).utf) ?_
    rintro _ w4 ⟨rfl, hfw4⟩
    refine ⟨_, rfl, ?_⟩
    have M := M.step hfw4
    have hbf := RR hbf hfw4.below
    refine yb rfl (A1 (A2 (AR (b := (!(utf b))) rfl (fun h30 => ?_) (fun h30 => ?_))))
    ·have h30p := (C4 h30)
     refine CF (AJ (AJ (IW rfl (AJ (AJ (BE (A2 (A0 ?_))))))))
     iterate 4 refine yb rfl ?_
     refine yl rfl rfl (M.cell 0 rfl rfl) (AC (some 55) (A4 rfl) rfl rfl (AG rfl rfl Tryz.call49) (EC s x _ _ _ _ (M.blk 0 rfl)) ?_)
     rintro _ w5 ⟨rfl, hbw5, hfw5⟩
     have M := M.putB 0 rfl hbw5 hfw5
     exact ⟨_, rfl, A1 (DC (Or.inr rfl) rfl ⟨rfl, by rw [SI (hq.trans (hX hc h15p h22p)) h30p]; exact M.blk 0 rfl, M.fr⟩)⟩
    ·have h30p := (C6 h30)
     refine AM (A2 (A9 (A0 (yb rfl (AC (some 32) (A4 rfl) rfl rfl (AG rfl rfl Tryz.call142) (Tryz.Builder_String_any_f w.heap.size g4 b _ hbf M.fr.size) ?_)))))
     rintro _ w6 ⟨rfl, hbf, hBw6⟩
     refine ⟨_, rfl, ?_⟩
     have M := M.belowOld hlt hBw6
     refine ya rfl (BS (parts := [(0, _), (3, _)]) rfl rfl (JB _ _)) (ya rfl (BS (parts := [(0, _), (1, _)]) rfl rfl (EE _ _ _ _ _)) (yb rfl (yb rfl (yb rfl (B8 (cs' := [str s, .int .i64 ((x.at_ : Nat) : Int), .int .u8 1, .int .u8 3, .int .i64 0, .bool false, str b, str [], .slice none 0 0, str x.say, .int .i64 ((x.tat : Nat) : Int), .bool x.fin, .int .i64 x.e, .int .i64 ((x.wh : Nat) : Int)]) M 0 (A4 rfl) rfl rfl rfl rfl rfl AN rfl (AQ rfl) (B3 rfl) rfl fun w7 M => A1 (A2 (A9 (A0 (yb rfl (yb rfl (yb rfl (yl rfl rfl (M.cell 0 rfl rfl) (yb rfl ?_)))))))))))))
     exact ya rfl (CQ rfl rfl rfl (by omega)) (yb rfl (yb rfl (BU (cs' := [str s, .int .i64 ((x.at_ + (i + 1) : Nat) : Int), .int .u8 1, .int .u8 3, .int .i64 0, .bool false, str b, str [], .slice none 0 0, str x.say, .int .i64 ((x.tat : Nat) : Int), .bool x.fin, .int .i64 x.e, .int .i64 ((x.wh : Nat) : Int)]) M 0 (A4 rfl) rfl rfl rfl rfl rfl rfl rfl FT (B5 rfl) rfl fun w8 M => A1 (A2 (AE (AA (AK (AA (AA (AK (AA (DC (Or.inl rfl) rfl ⟨rfl, by rw [VF (i := i + 1) (by omega) (hq.trans (hX hc h15p h22p)) h30p]; exact M.blk 0 rfl, M.fr⟩))))))))))))
   ·have h22p := (of_decide_eq_false h22)
    refine yd rfl (yp rfl) (yd rfl (yp rfl) ?_)
    obtain ⟨d, hd⟩ := DY (l := l) (i := i + 1) (by omega)
    refine yd rfl (F5 rfl rfl rfl Tryz.underlying9 hd) (yd rfl (CX rfl rfl rfl) (yb rfl (A1 (A2 (AR (b := (!decide ((d.toNat : Int) = (39 : Int)))) rfl (fun h27 => ?_) (fun h27 => ?_))))))
    ·have h27p := (of_decide_eq_false (C4 h27))
     refine A9 (A9 (A0 ?_))
     have hbf := Lib.IsBuilderF.of hbu
     refine AC (some 28) (A4 rfl) rfl rfl (AG rfl rfl Tryz.call142) (Tryz.Builder_String_any_f w.heap.size g4 b _ hbf M.fr.size) ?_
     rintro _ w9 ⟨rfl, hbf, hBw9⟩
     refine ⟨_, rfl, ?_⟩
     have M := M.belowOld hlt hBw9
     refine AC (some 29) (A4 rfl) rfl rfl (AG rfl rfl Tryz.call117) (JG _ _ (by omega) (hY.fr M.fr hGx).utf) ?_
     rintro _ w10 ⟨rfl, hfw10⟩
     refine ⟨_, rfl, ?_⟩
     have M := M.step hfw10
     have hbf := RR hbf hfw10.below
     refine yb rfl (A1 (A2 (AR (b := (!(utf b))) rfl (fun h30 => ?_) (fun h30 => ?_))))
     ·have h30p := (C4 h30)
      refine CF (AJ (AJ (IW rfl (AJ (AJ (BE (A2 (A0 ?_))))))))
      iterate 4 refine yb rfl ?_
      refine yl rfl rfl (M.cell 0 rfl rfl) (AC (some 55) (A4 rfl) rfl rfl (AG rfl rfl Tryz.call49) (EC s x _ _ _ _ (M.blk 0 rfl)) ?_)
      rintro _ w11 ⟨rfl, hbw11, hfw11⟩
      have M := M.putB 0 rfl hbw11 hfw11
      exact ⟨_, rfl, A1 (DC (Or.inr rfl) rfl ⟨rfl, by rw [SI (hq.trans (ZS hc hd h15p h27p)) h30p]; exact M.blk 0 rfl, M.fr⟩)⟩
     ·have h30p := (C6 h30)
      refine AM (A2 (A9 (A0 (yb rfl (AC (some 32) (A4 rfl) rfl rfl (AG rfl rfl Tryz.call142) (Tryz.Builder_String_any_f w.heap.size g4 b _ hbf M.fr.size) ?_)))))
      rintro _ w12 ⟨rfl, hbf, hBw12⟩
      refine ⟨_, rfl, ?_⟩
      have M := M.belowOld hlt hBw12
      refine ya rfl (BS (parts := [(0, _), (3, _)]) rfl rfl (JB _ _)) (ya rfl (BS (parts := [(0, _), (1, _)]) rfl rfl (EE _ _ _ _ _)) (yb rfl (yb rfl (yb rfl (B8 (cs' := [str s, .int .i64 ((x.at_ : Nat) : Int), .int .u8 1, .int .u8 3, .int .i64 0, .bool false, str b, str [], .slice none 0 0, str x.say, .int .i64 ((x.tat : Nat) : Int), .bool x.fin, .int .i64 x.e, .int .i64 ((x.wh : Nat) : Int)]) M 0 (A4 rfl) rfl rfl rfl rfl rfl AN rfl (AQ rfl) (B3 rfl) rfl fun w13 M => A1 (A2 (A9 (A0 (yb rfl (yb rfl (yb rfl (yl rfl rfl (M.cell 0 rfl rfl) (yb rfl ?_)))))))))))))
      exact ya rfl (CQ rfl rfl rfl (by omega)) (yb rfl (yb rfl (BU (cs' := [str s, .int .i64 ((x.at_ + (i + 1) : Nat) : Int), .int .u8 1, .int .u8 3, .int .i64 0, .bool false, str b, str [], .slice none 0 0, str x.say, .int .i64 ((x.tat : Nat) : Int), .bool x.fin, .int .i64 x.e, .int .i64 ((x.wh : Nat) : Int)]) M 0 (A4 rfl) rfl rfl rfl rfl rfl rfl rfl FT (B5 rfl) rfl fun w14 M => A1 (A2 (AE (AA (AK (AA (AA (AK (AA (DC (Or.inl rfl) rfl ⟨rfl, by rw [VF (i := i + 1) (by omega) (hq.trans (ZS hc hd h15p h27p)) h30p]; exact M.blk 0 rfl, M.fr⟩))))))))))))
    ·have h27p := (of_decide_eq_true (C6 h27))
     refine AM (A2 (A0 (yb rfl (yb rfl (ya rfl (F5 rfl rfl rfl Tryz.underlying9 hd) (AC (some 49) (A4 rfl) rfl rfl (AG rfl rfl Tryz.call143) (LZ w.heap.size g4 b d _ hbu (by omega) M.fr.size) ?_))))))
     rintro _ w15 ⟨rfl, hbu, hBw15⟩
     refine ⟨_, rfl, ?_⟩
     have M := M.belowOld hlt hBw15
     refine A1 (AD (A2 (A0 (yb rfl (ya rfl (CQ rfl rfl rfl (by omega)) (yb rfl (A1 (BP [(0, .pointer (some ⟨gx, 0, none⟩)), (1, str l), (4, .pointer (some ⟨g4, 0, none⟩)), (5, .int .i64 (((i + 2) : Nat) : Int))] (l.length - (i + 2)) ⟨i + 2, (b ++ [d]), rfl, M, ?_, ?_, ?_, ?_, rfl⟩ (by first | omega | (simp only [List.length_append, List.length_cons, List.length_nil]; omega)) ⟨rfl, rfl, rfl, rfl, trivial⟩))))))))
     ·omega
     ·simp only [List.length_append, List.length_cons, List.length_nil]; omega
     ·exact hbu
     ·first
       | (rw [hq, gZ hc hd h15p h27p])
       | (rw [hq, hH hc h15p])
  ·have h15p := (of_decide_eq_false h15)
   refine AM (A2 (A0 (yb rfl (yb rfl (ya rfl (F5 rfl rfl rfl Tryz.underlying9 hc) (AC (some 49) (A4 rfl) rfl rfl (AG rfl rfl Tryz.call143) (LZ w.heap.size g4 b c _ hbu (by omega) M.fr.size) ?_))))))
   rintro _ w16 ⟨rfl, hbu, hBw16⟩
   refine ⟨_, rfl, ?_⟩
   have M := M.belowOld hlt hBw16
   refine A1 (AD (A2 (A0 (yb rfl (ya rfl (CQ rfl rfl rfl (by omega)) (yb rfl (A1 (BP [(0, .pointer (some ⟨gx, 0, none⟩)), (1, str l), (4, .pointer (some ⟨g4, 0, none⟩)), (5, .int .i64 (((i + 1) : Nat) : Int))] (l.length - (i + 1)) ⟨i + 1, (b ++ [c]), rfl, M, ?_, ?_, ?_, ?_, rfl⟩ (by first | omega | (simp only [List.length_append, List.length_cons, List.length_nil]; omega)) ⟨rfl, rfl, rfl, rfl, trivial⟩))))))))
   ·omega
   ·simp only [List.length_append, List.length_cons, List.length_nil]; omega
   ·exact hbu
   ·first
     | (rw [hq, gZ hc hd h15p h27p])
     | (rw [hq, hH hc h15p])
 ·have h9p := (of_decide_eq_false h9)
  refine CF (AJ (AJ (BE (A2 (A0 ?_)))))
  iterate 4 refine yb rfl ?_
  refine yl rfl rfl (M.cell 0 rfl rfl) (AC (some 55) (A4 rfl) rfl rfl (AG rfl rfl Tryz.call49) (EC s x _ _ _ _ (M.blk 0 rfl)) ?_)
  rintro _ w17 ⟨rfl, hbw17, hfw17⟩
  have M := M.putB 0 rfl hbw17 hfw17
  refine ⟨_, rfl, A1 (DC (Or.inr rfl) rfl ?_)⟩
  obtain rfl : i = l.length := by omega
  exact ⟨rfl, by rw [fU (hq.trans (by rw [List.drop_length]; cases b <;> rfl))]; exact M.blk 0 rfl, M.fr⟩
end Go.Proofs.YtadgfojhjnkliaaGreatDoor
