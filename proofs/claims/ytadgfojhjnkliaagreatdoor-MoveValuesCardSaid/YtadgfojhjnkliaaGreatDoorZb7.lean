/- Lemmas that the last text rests on. Condition: each says its own. -/
import Derived.Test.YtadgfojhjnkliaaGreatDoorZb6
import Derived.Lib.Builder
import Derived.Laws.Externs
import Derived.Shelf.Strings.BuilderF
import Derived.Shelf.Strings.Trim
import Derived.Shelf.Strings.FuncGrows
import Derived.Shelf.Strconv.ParseIntPublic10
set_option maxHeartbeats 16000000
set_option maxRecDepth 100000
namespace Go.Proofs.YtadgfojhjnkliaaGreatDoor
open Go.RowKit
open Tryz
def tabN (n : Nat) : Nat := if (decide (65 ≤ n) && decide (n ≤ 90)) || (decide (97 ≤ n) && decide (n ≤ 122)) then 2 else if ((decide (48 ≤ n) && decide (n ≤ 57)) || n == 45 || n == 95 || n == 46) then 1 else 0
def tabL : List Value := (List.range 256).map fun n => .int .u8 (tabN n : Int)
theorem mJ : mK = .agg tabL.toArray := by kernel_rfl
theorem PX : tabL.length = 256 := by unfold tabL; simp
theorem fZ : ∀ u ∈ tabL, u.oneCell' = true := by
 intro u hu
 obtain ⟨n, _, rfl⟩ := List.mem_map.1 hu
 rfl
theorem mL {n : Nat} (h : n < 256) : tabL[n]? = some (.int .u8 (tabN n : Int)) := by unfold tabL; simp [h]
theorem ZN (c : UInt8) : tabN c.toNat = if EW c then 2 else if K7 c then 1 else 0 := by
 have h1 : (((decide (65 ≤ c.toNat) && decide (c.toNat ≤ 90)) || (decide (97 ≤ c.toNat) && decide (c.toNat ≤ 122))) = EW c) := by
  unfold EW; rw [Bool.or_comm]
 unfold tabN
 rw [h1]
 rfl
def zeroT : List Value := List.replicate 256 (.int .u8 0)
theorem XR : (prog.info? 175).map (·.zero) = some (some (.agg zeroT.toArray)) := by kernel_rfl
theorem XS : (prog.info? 175).map (·.size) = some 256 := by kernel_rfl
def G7 (l : List UInt8) : Bool := l.all fun c => EW c || K7 c
theorem ML : ∀ (i : Nat) (l : List UInt8), i ≠ 0 → I9 i l = G7 l
 | _, [], _ => rfl
 | i, c :: l, h => by
  rw [I9, ML (i + 1) l (by omega), show (i != 0) = true by simp [h], Bool.and_true]
  rfl
theorem S5 (c : UInt8) (l : List UInt8) : I9 0 (c :: l) = (EW c && G7 (c :: l)) := by
 rw [I9, ML 1 l (by omega)]
 show ((EW c || (K7 c && (0 != 0))) && G7 l) = (EW c && ((EW c || K7 c) && G7 l))
 cases EW c <;> cases K7 c <;> simp
theorem SE : zeroT.length = 256 := by unfold zeroT; rw [List.length_replicate]
theorem DV (l : List UInt8) (w : World) (hm : (l.length : Int) < 4611686018427387904) : Calls prog 68 #[str l] w fun e w' => e = .returned (.bool (BU l)) ∧ Fr0 w w' := by
 refine AK (vs := [_]) func68 rfl ntmps68 rfl ?_
 by_cases h0 : l.length = 0
 ·have hno : BU l = false := by unfold BU; simp; omega
  refine A4 (A0 (yb rfl (A1 (A2 (A4 (A4 (A0 (yb rfl (ya rfl (EO rfl rfl underlying9) (ya rfl (KH rfl rfl rfl (by omega)) (yb rfl (yo rfl (yo rfl (yo rfl (yb rfl ?_)))))))))))))))
  exact A1 (A2 (DQ rfl (A4 (A0 (yb rfl (A1 (A2 (AD (AA (AH rfl rfl ⟨by rw [hno], Fr.refl⟩))))))))))
 by_cases h1 : 32 < l.length
 ·have hno : BU l = false := by unfold BU; simp; omega
  refine A4 (A0 (yb rfl (A1 (A2 (A4 (A4 (A0 (yb rfl (ya rfl (EO rfl rfl underlying9) (ya rfl (GO rfl rfl rfl (by omega)) (yb rfl (yd rfl (yp rfl) (yd rfl (EO rfl rfl underlying9) (yd rfl (lT rfl rfl rfl (by omega)) (yb rfl ?_)))))))))))))))
  exact A1 (A2 (DQ rfl (A4 (A0 (yb rfl (A1 (A2 (AD (AA (AH rfl rfl ⟨by rw [hno], Fr.refl⟩))))))))))
 obtain ⟨c0, r0, hl⟩ : ∃ c0 r0, l = c0 :: r0 := List.exists_cons_of_ne_nil (by intro e; rw [e] at h0; exact h0 rfl)
 have hno : BU l = (EW c0 && G7 l) := by
  have : I9 0 l = (EW c0 && G7 l) := by rw [hl]; exact S5 c0 r0
  unfold BU; rw [this]; simp [show 1 ≤ l.length by omega, show l.length ≤ 32 by omega]
 have hc0 : l[0]? = some c0 := by rw [hl]; rfl
 refine A4 (A0 (yb rfl (A1 (A2 (A4 (A4 (A0 (yb rfl (ya rfl (EO rfl rfl underlying9) (ya rfl (GO rfl rfl rfl (by omega)) (yb rfl (yd rfl (yp rfl) (yd rfl (EO rfl rfl underlying9) (yd rfl (lU rfl rfl rfl (by omega)) (yb rfl ?_)))))))))))))))
 refine A1 (A2 (DB rfl (AL (A2 (A4 (A0 (CC (some 13) (by first | exact A9 rfl | exact B7 rfl rfl rfl) rfl rfl (AF rfl rfl call125) (cN _) ?_)))))))
 rintro _ w1 ⟨rfl, hf1⟩
 refine ⟨_, rfl, CI (some 3) (A9 rfl) rfl rfl (fun ρ hρ => BX 175 rfl _ zeroT XR rfl) ?_⟩
 rintro _ w2 ⟨g, rfl, hg1, hg2, hb, hf2⟩
 refine CI none (A9 rfl) rfl rfl (fun ρ hρ => BP 175 (.tmp 3) (.tmp 13) rfl g 0 175 _ tabL (hρ _ _ rfl) ((hρ _ _ rfl).trans mJ) hb (by rw [PX]; exact XS) (by rw [PX, SE]; omega) fZ) ?_
 rintro _ w3 ⟨rfl, hb3, hf3⟩
 rw [PC zeroT tabL (by rw [PX, SE])] at hb3
 have hf : Fr0 w w3 := (hf1.trans hf2).step hf3 (fun k hk e => by have := hf1.size; omega)
 refine A1 (A2 (A4 (A4 (A0 (yb rfl (ya rfl (EO rfl rfl underlying9) (yb rfl (A1 (A2 (AV ?_))))))))))
 have tcell : ∀ c : UInt8, Cell w3.heap g (0 + ((c.toNat : Int)).toNat * 1) (.int .u8 (tabN c.toNat : Int)) := fun c => by
  have := hb3.c c.toNat (mL c.toNat_lt)
  simpa using this
 refine CM (fun e wr m => ∃ (i : Nat), e = [(16, .int .i64 (i : Int)), (15, .int .i64 (l.length : Int)), (3, pg g), (0, str l)] ∧ w3 = wr ∧ i ≤ l.length ∧ G7 (l.take i) = true ∧ m = l.length - i) ⟨0, rfl, rfl, Nat.zero_le _, rfl, rfl⟩ ⟨rfl, rfl, rfl, rfl, trivial⟩ ?_
 rintro _ _ _ ⟨i, rfl, rfl, hi, hok, rfl⟩
 by_cases hlt : i < l.length
 ·obtain ⟨c, hc⟩ : ∃ c, l[i]? = some c := ⟨_, List.getElem?_eq_getElem hlt⟩
  have h256 := c.toNat_lt
  have ct := tcell c
  have hsplit : l = l.take i ++ c :: l.drop (i + 1) := by
   have h1 : l.drop i = c :: l.drop (i + 1) := by
    rw [List.drop_eq_getElem_cons hlt]
    congr 1
    rw [List.getElem?_eq_getElem hlt] at hc
    exact Option.some.inj hc
   rw [← h1, List.take_append_drop]
  have htab := ZN c
  by_cases hz : tabN c.toNat = 0
  ·have hbad : G7 l = false := by
    rw [hz] at htab
    have h3 : EW c = false := by cases hq : EW c with | false => rfl | true => rw [hq] at htab; simp at htab
    have h4 : K7 c = false := by cases hq : K7 c with | false => rfl | true => rw [h3, hq] at htab; simp at htab
    rw [hsplit]; unfold G7; simp [h3, h4]
   refine A4 (A0 (ya rfl (ZC rfl rfl rfl (by omega)) (A1 (A2 (A4 (DQ rfl (AL (A2 (A4 (AV (A4 (A0 (yb rfl (yb rfl (A1 ?_)))))))))))))))
   refine A2 (A4 (A0 (yb rfl (yb rfl (ya rfl (F5 rfl rfl rfl underlying9 hc) (ya rfl (GT rfl rfl rfl (ar rfl) (by omega)) (yl rfl rfl (by assumption) (ya rfl (KH rfl rfl rfl (by omega)) (A1 (A2 (DQ rfl (A4 (A0 (yb rfl (A1 ?_)))))))))))))))
   exact A2 (AD (AJ (AA (AA (AJ (AA (AH rfl rfl ⟨by rw [hno, hbad, Bool.and_false], hf⟩)))))))
  ·have hstep : G7 (l.take (i + 1)) = true := by
    have h3 : (EW c || K7 c) = true := by
     cases hq : EW c with
     | true => rfl
     | false => cases hq2 : K7 c with
      | true => rfl
      | false => rw [hq, hq2] at htab; simp at htab; omega
    rw [List.take_add_one, hc]
    unfold G7 at hok ⊢
    rw [List.all_append, hok]
    simpa using h3
   refine A4 (A0 (ya rfl (ZC rfl rfl rfl (by omega)) (A1 (A2 (A4 (DQ rfl (AL (A2 (A4 (AV (A4 (A0 (yb rfl (yb rfl (A1 ?_)))))))))))))))
   refine A2 (A4 (A0 (yb rfl (yb rfl (ya rfl (F5 rfl rfl rfl underlying9 hc) (ya rfl (GT rfl rfl rfl (ar rfl) (by omega)) (yl rfl rfl (by assumption) (ya rfl (GO rfl rfl rfl (by omega)) (A1 (A2 (DB rfl (AL (AC (A2 (A0 ?_)))))))))))))))
   exact ya rfl (CQ rfl rfl rfl (by omega)) (yb rfl (A1 (BM [(16, .int .i64 ((i + 1 : Nat) : Int)), (15, .int .i64 (l.length : Int)), (3, pg g), (0, str l)] (l.length - (i + 1)) ⟨i + 1, rfl, rfl, by omega, hstep, rfl⟩ (by omega) ⟨rfl, rfl, rfl, rfl, trivial⟩)))
 ·obtain rfl : i = l.length := by omega
  rw [List.take_length] at hok
  have h256 := c0.toNat_lt
  have ct := tcell c0
  have htab := ZN c0
  cases hlet : EW c0 with
  | true =>
   rw [hlet] at htab
   have h2 : tabN c0.toNat = 2 := htab
   refine A4 (A0 (ya rfl (ZD rfl rfl rfl (by omega)) (A1 (A2 (A4 (DB rfl (CD (AI (AI (BB (A2 (A4 (A0 (yb rfl (ya rfl (F5 (m := 0) rfl rfl rfl underlying9 hc0) ?_)))))))))))))))
   exact ya rfl (GT rfl rfl rfl (ar rfl) (by omega)) (yl rfl rfl (by assumption) (ya rfl (KH rfl rfl rfl (by omega)) (yb rfl (A1 (A2 (AD (AH rfl rfl ⟨by rw [hno, hlet, hok]; rfl, hf⟩)))))))
  | false =>
   rw [hlet] at htab
   have h2 : tabN c0.toNat ≠ 2 := by rw [htab]; cases K7 c0 <;> simp
   refine A4 (A0 (ya rfl (ZD rfl rfl rfl (by omega)) (A1 (A2 (A4 (DB rfl (CD (AI (AI (BB (A2 (A4 (A0 (yb rfl (ya rfl (F5 (m := 0) rfl rfl rfl underlying9 hc0) ?_)))))))))))))))
   exact ya rfl (GT rfl rfl rfl (ar rfl) (by omega)) (yl rfl rfl (by assumption) (ya rfl (GO rfl rfl rfl (by omega)) (yb rfl (A1 (A2 (AD (AH rfl rfl ⟨by rw [hno, hlet]; rfl, hf⟩)))))))
section
inductive Xn
 | zero
 | lit (v : Vl)
 | var (s : List UInt8)
 | un (op : UInt8) (a : Xn)
 | bin (op : UInt8) (a b : Xn)
def Xn.op : Xn → UInt8
 | .zero => 0
 | .lit _ => 1
 | .var _ => 2
 | .un o _ => o
 | .bin o _ _ => o
def Xn.vl : Xn → Vl
 | .lit v => v
 | _ => zeroVl
def Xn.nm : Xn → List UInt8
 | .var s => s
 | _ => []
def Xn.nk : Xn → Nat
 | .un _ _ => 1
 | .bin _ _ _ => 2
 | _ => 0
def Xn.cells (n : Xn) (A : Option Addr) : List Value := [.int .u8 (n.op.toNat : Int), .int .u8 (n.vl.kind.toNat : Int), .int .i64 n.vl.int, .bool n.vl.bool, str n.vl.text, str n.nm, .slice A n.nk n.nk]
def Xn.leaf : Xn → Bool
 | .un _ _ => false
 | .bin _ _ _ => false
 | _ => true
theorem Xn.nk_leaf {n : Xn} (h : n.leaf = true) : n.nk = 0 := by cases n <;> first | rfl | cases h
def C9 (b : UInt8) : Bool := decide ((48 : Int) ≤ (b.toNat : Int)) && decide ((b.toNat : Int) ≤ 57)
def DS (b : UInt8) : Bool := decide ((97 : Int) ≤ ((b ||| 32).toNat : Int)) && decide (((b ||| 32).toNat : Int) ≤ 122)
def CR (b : UInt8) : Bool := DS b || C9 b || decide ((b.toNat : Int) = 45) || decide ((b.toNat : Int) = 95) || decide ((b.toNat : Int) = 46)
def signTab : List (List UInt8 × (UInt8 × Nat)) := [([111, 114], (6, 1)), ([97, 110, 100], (5, 2)), ([61], (7, 4)), ([33, 61], (8, 4)), ([60], (9, 4)), ([60, 61], (10, 4)), ([62], (11, 4)), ([62, 61], (12, 4)), ([43], (13, 5)), ([45], (14, 5)), ([42], (15, 6)), ([47], (16, 6)), ([37], (17, 6))]
def VG : List (List UInt8 × (UInt8 × Nat)) → List UInt8 → Option (UInt8 × Nat)
 | [], _ => none
 | (k', v) :: r, k => if k = k' then some v else VG r k
def AG (s : List UInt8) : Option (UInt8 × Nat) := VG signTab s
def HF (s : List UInt8) : Bool := decide (s = [97, 110, 100]) || decide (s = [111, 114]) || decide (s = [110, 111, 116]) || decide (s = [116, 114, 117, 101]) || decide (s = [102, 97, 108, 115, 101])
structure Lx where
 at_ : Nat
 nd : Xn
 say : List UInt8
 tat : Nat
 fin : Bool
 e : Int
 wh : Nat
def Lx.cells (s : List UInt8) (x : Lx) : List Value := [str s, .int .i64 (x.at_ : Int), .int .u8 (x.nd.op.toNat : Int), .int .u8 (x.nd.vl.kind.toNat : Int), .int .i64 x.nd.vl.int, .bool x.nd.vl.bool, str x.nd.vl.text, str x.nd.nm, .slice none 0 0, str x.say, .int .i64 (x.tat : Int), .bool x.fin, .int .i64 x.e, .int .i64 (x.wh : Int)]
def Lx.fail (x : Lx) (e : Int) (p : Nat) : Lx := if x.e = 0 then { x with e := e, wh := p } else x
def LS (l : List UInt8) : List UInt8 := l.dropWhile (fun b => b == 32)
section
variable (s : List UInt8) (fr : Nat → Lx → Xn × Lx)
end
def lx0 : Lx := ⟨0, .zero, [], 0, false, 0, 0⟩
end
def gR (p : UInt8 × Nat) : Value := .agg #[.int .u8 (p.1.toNat : Int), .int .i64 (p.2 : Int)]
def D4 : List (List UInt8 × Value) := signTab.map fun p => (p.1, gR p.2)
theorem NH (k : List UInt8) : ∀ l : List (List UInt8 × (UInt8 × Nat)), CE (l.map fun p => (p.1, gR p.2)) k = (VG l k).map gR
 | [] => rfl
 | (k', v) :: r => by
  rw [List.map_cons, CE, VG]
  by_cases h : k = k'
  ·rw [if_pos h, if_pos h]; rfl
  ·rw [if_neg h, if_neg h]; exact NH k r
theorem E2 (k : List UInt8) : (CE D4 k).getD (.agg #[.int .u8 0, .int .i64 0]) = .agg #[.int .u8 (((AG k).getD (0, 0)).1.toNat : Int), .int .i64 ((((AG k).getD (0, 0)).2 : Nat) : Int)] := by
 unfold D4 AG
 rw [NH]
 cases VG signTab k <;> rfl
theorem FY (k : List UInt8) : (CE D4 k).isSome = (AG k).isSome := by
 unfold D4 AG
 rw [NH]
 cases VG signTab k <;> rfl
theorem j7 (v : List UInt8) : ([[97, 110, 100], [111, 114], [110, 111, 116], [116, 114, 117, 101], [102, 97, 108, 115, 101]].any (fun z => decide (v = z))) = HF v := by
 simp only [List.any_cons, List.any_nil, HF, Bool.or_false, Bool.or_assoc]
theorem O4 (a0 : Int) (a2 : Bool) : prog.built 67 [(0, .int .u8 a0), (2, .bool a2)] = some #[.int .u8 a0, .int .i64 0, .bool a2, str []] := by kernel_rfl
theorem EE (a0 : Int) (c1_0 c1_1 c1_2 c1_3 : Value) : prog.built 70 [(0, .int .u8 a0), (1, .agg #[c1_0, c1_1, c1_2, c1_3])] = some #[.int .u8 a0, c1_0, c1_1, c1_2, c1_3, str [], .slice none 0 0] := by kernel_rfl
theorem O3 (a0 : Int) (a2 : List UInt8) : prog.built 70 [(0, .int .u8 a0), (2, str a2)] = some #[.int .u8 a0, .int .u8 0, .int .i64 0, .bool false, str [], str a2, .slice none 0 0] := by kernel_rfl
theorem C6 (a0 : Int) (a1 : Int) : prog.built 110 [(0, .int .u8 a0), (1, .int .i64 a1)] = some #[.int .u8 a0, .int .i64 a1] := by kernel_rfl
theorem M7 : (prog.info? 27).map (·.size) = some 1 := by kernel_rfl
theorem FT : (prog.info? 278).map (·.size) = some 1 := by kernel_rfl
theorem EM : (prog.info? 9).map (·.size) = some 1 := by kernel_rfl
theorem EC (s : List UInt8) (x : Lx) (gx : Nat) (er : Int) (p : Nat) (w : World) (hb : Blk w gx 104 (Lx.cells s x)) :
 Calls prog 49 #[pg gx, .int .i64 er, .int .i64 (p : Int)] w fun e w' => e = .returned (.tuple #[]) ∧ Blk w' gx 104 (Lx.cells s (x.fail er p)) ∧ Fr (fun k => k = gx) w w' := by
 refine AK (vs := [_, _, _]) func49 rfl ntmps49 rfl ?_
 have M : Mem w (fun k => k = gx) [As.blk gx 104 (Lx.cells s x)] w := Mem.one hb
 refine A4 (A0 (yb rfl (yb rfl (yb rfl (yl rfl rfl (M.cell 0 rfl rfl) (ya rfl (B9 rfl rfl rfl) (A1 (A2 (AQ (b := (decide (x.e = (0 : Int)))) rfl (fun h10 => ?_) (fun h10 => ?_))))))))))
 ·have h10p := (odt h10)
  refine A0 ?_
  iterate 6 refine yb rfl ?_
  exact BQ (cs' := [str s, .int .i64 ((x.at_ : Nat) : Int), .int .u8 (x.nd.op.toNat : Int), .int .u8 (x.nd.vl.kind.toNat : Int), .int .i64 x.nd.vl.int, .bool x.nd.vl.bool, str x.nd.vl.text, str x.nd.nm, .slice none 0 0, str x.say, .int .i64 ((x.tat : Nat) : Int), .bool x.fin, .int .i64 er, .int .i64 ((x.wh : Nat) : Int)]) M 0 (A9 rfl) rfl rfl rfl rfl rfl rfl rfl M7 (AZ rfl) rfl fun w1 M => yb rfl (yb rfl (BQ (cs' := [str s, .int .i64 ((x.at_ : Nat) : Int), .int .u8 (x.nd.op.toNat : Int), .int .u8 (x.nd.vl.kind.toNat : Int), .int .i64 x.nd.vl.int, .bool x.nd.vl.bool, str x.nd.vl.text, str x.nd.nm, .slice none 0 0, str x.say, .int .i64 ((x.tat : Nat) : Int), .bool x.fin, .int .i64 er, .int .i64 ((p : Nat) : Int)]) M 0 (A9 rfl) rfl rfl rfl rfl rfl rfl rfl FT (AZ rfl) rfl fun w2 M => A1 (DC (Or.inr rfl) rfl ⟨rfl, by rw [Lx.fail, if_pos h10p]; exact M.blk 0 rfl, M.fr⟩)))
 ·have h10p := (odf h10)
  exact AL (DC (Or.inr rfl) rfl ⟨rfl, by rw [Lx.fail, if_neg h10p]; exact M.blk 0 rfl, M.fr⟩)
theorem RH (b : UInt8) (w : World) : Calls prog 104 #[.int .u8 (b.toNat : Int)] w fun e w' => e = .returned (.bool (C9 b)) ∧ Fr0 w w' := by
 refine AK (vs := [_]) func104 rfl ntmps104 rfl ?_
 have M := CK w
 refine A4 (A0 (yb rfl (A1 (A2 (A4 (A0 (yb rfl (ya rfl (EP rfl rfl rfl) (yb rfl (AT 3 [(2, .bool false), (8, .bool ((decide ((48 : Int) ≤ (b.toNat : Int))) && (decide ((b.toNat : Int) ≤ (57 : Int)))))] (fun w' => Mem w AB [] w') ?_ (fun k5 => ?_)))))))))))
 ·intro w1 M
  exact yb rfl (A1 (A2 (AD (AH rfl rfl ⟨rfl, M.fr⟩))))
 refine AE (d := 5) (b := (decide ((48 : Int) ≤ (b.toNat : Int)))) rfl (fun h5 => ?_) (fun h5 => ?_)
 ·exact yd rfl (yp rfl) (yd rfl (I2 rfl rfl rfl) (yb rfl (k5 _ _ M ⟨rfl, (by rw [h5]; rfl), trivial⟩)))
 ·exact yo rfl (yo rfl (yb rfl (k5 _ _ M ⟨rfl, (by rw [h5]; rfl), trivial⟩)))
theorem T1 (b : UInt8) (w : World) : Calls prog 107 #[.int .u8 (b.toNat : Int)] w fun e w' => e = .returned (.bool (DS b)) ∧ Fr0 w w' := by
 refine AK (vs := [_]) func107 rfl ntmps107 rfl ?_
 have M := CK w
 refine A4 (A0 (yb rfl (A1 (A2 (A4 (A0 (yb rfl (ya rfl (p9 (b := b) (c := 32) rfl rfl rfl) (ya rfl (EP rfl rfl rfl) (yb rfl (AT 4 [(2, .bool false), (10, .bool ((decide ((97 : Int) ≤ ((b ||| 32).toNat : Int))) && (decide (((b ||| 32).toNat : Int) ≤ (122 : Int)))))] (fun w' => Mem w AB [] w') ?_ (fun k6 => ?_))))))))))))
 ·intro w1 M
  exact yb rfl (A1 (A2 (AD (AH rfl rfl ⟨rfl, M.fr⟩))))
 refine AE (d := 6) (b := (decide ((97 : Int) ≤ ((b ||| 32).toNat : Int)))) rfl (fun h6 => ?_) (fun h6 => ?_)
 ·exact yd rfl (yp rfl) (yd rfl (p9 (b := b) (c := 32) rfl rfl rfl) (yd rfl (I2 rfl rfl rfl) (yb rfl (k6 _ _ M ⟨rfl, (by rw [h6]; rfl), trivial⟩))))
 ·exact yo rfl (yo rfl (yo rfl (yb rfl (k6 _ _ M ⟨rfl, (by rw [h6]; rfl), trivial⟩))))
theorem eB (b : UInt8) (w : World) : Calls prog 108 #[.int .u8 (b.toNat : Int)] w fun e w' => e = .returned (.bool (CR b)) ∧ Fr0 w w' := by
 refine AK (vs := [_]) func108 rfl ntmps108 rfl ?_
 have M := CK w
 refine A4 (A0 (yb rfl (A1 (A2 (A4 (A0 (yb rfl (cp M 4 rfl (AF rfl rfl call107) (T1 _ _) fun w1 M => yb rfl (AT 3 [(0, .int .u8 (b.toNat : Int)), (2, .bool false), (8, .bool ((DS b) || (C9 b)))] (fun w' => Mem w AB [] w') ?_ (fun k5 => ?_))))))))))
 ·intro w2 M
  refine yb rfl (AT 3 [(0, .int .u8 (b.toNat : Int)), (2, .bool false), (12, .bool (((DS b) || (C9 b)) || (decide ((b.toNat : Int) = (45 : Int)))))] (fun w' => Mem w AB [] w') ?_ (fun k9 => ?_))
  ·intro w3 M
   refine yb rfl (AT 3 [(0, .int .u8 (b.toNat : Int)), (2, .bool false), (16, .bool ((((DS b) || (C9 b)) || (decide ((b.toNat : Int) = (45 : Int)))) || (decide ((b.toNat : Int) = (95 : Int)))))] (fun w' => Mem w AB [] w') ?_ (fun k13 => ?_))
   ·intro w4 M
    refine yb rfl (AT 3 [(2, .bool false), (20, .bool (((((DS b) || (C9 b)) || (decide ((b.toNat : Int) = (45 : Int)))) || (decide ((b.toNat : Int) = (95 : Int)))) || (decide ((b.toNat : Int) = (46 : Int)))))] (fun w' => Mem w AB [] w') ?_ (fun k17 => ?_))
    ·intro w5 M
     exact yb rfl (A1 (A2 (AD (AH rfl rfl ⟨rfl, M.fr⟩))))
    refine AE (d := 17) (b := ((((DS b) || (C9 b)) || (decide ((b.toNat : Int) = (45 : Int)))) || (decide ((b.toNat : Int) = (95 : Int))))) rfl (fun h17 => ?_) (fun h17 => ?_)
    ·exact yo rfl (yo rfl (yb rfl (k17 _ _ M ⟨rfl, (by rw [h17]; rfl), trivial⟩)))
    ·exact yd rfl (yp rfl) (yd rfl (B9 rfl rfl rfl) (yb rfl (k17 _ _ M ⟨rfl, (by rw [h17]; rfl), trivial⟩)))
   refine AE (d := 13) (b := (((DS b) || (C9 b)) || (decide ((b.toNat : Int) = (45 : Int))))) rfl (fun h13 => ?_) (fun h13 => ?_)
   ·exact yo rfl (yo rfl (yb rfl (k13 _ _ M ⟨rfl, rfl, (by rw [h13]; rfl), trivial⟩)))
   ·exact yd rfl (yp rfl) (yd rfl (B9 rfl rfl rfl) (yb rfl (k13 _ _ M ⟨rfl, rfl, (by rw [h13]; rfl), trivial⟩)))
  refine AE (d := 9) (b := ((DS b) || (C9 b))) rfl (fun h9 => ?_) (fun h9 => ?_)
  ·exact yo rfl (yo rfl (yb rfl (k9 _ _ M ⟨rfl, rfl, (by rw [h9]; rfl), trivial⟩)))
  ·exact yd rfl (yp rfl) (yd rfl (B9 rfl rfl rfl) (yb rfl (k9 _ _ M ⟨rfl, rfl, (by rw [h9]; rfl), trivial⟩)))
 refine AE (d := 5) (b := (DS b)) rfl (fun h5 => ?_) (fun h5 => ?_)
 ·exact yo rfl (yo rfl (yb rfl (k5 _ _ M ⟨rfl, rfl, (by rw [h5]; rfl), trivial⟩)))
 ·refine yd rfl (yp rfl) (CC (some 7) (B7 rfl rfl rfl) rfl rfl (AF rfl rfl call104) (RH _ _) ?_)
  rintro _ w6 ⟨rfl, hfw6⟩
  refine ⟨_, rfl, ?_⟩
  have M := M.step hfw6
  exact yb rfl (k5 _ _ M ⟨rfl, rfl, (by rw [h5]; rfl), trivial⟩)
theorem o4 (A : Option Addr) (c : Nat) (l : List (List UInt8)) (v : List UInt8) (w : World) (hl : l.length ≤ 4611686018427387904) (hR : Rd w A (l.length * 1) (AR C4 l)) :
 Calls prog 124 #[.slice A l.length c, str v] w fun e w' => e = .returned (.int .i64 (ixJ (fun _ z => decide (v = z)) 0 l)) ∧ Fr0 w w' := by
 refine AK (vs := [_, _]) func124 rfl ntmps124 rfl ?_
 have M := CK w
 refine A4 (A0 (yb rfl (A1 (A2 (A4 (A4 (A0 (yb rfl (ya rfl (CY rfl rfl (sl rfl)) (yb rfl (A1 (A2 (AV (CM (fun e wr mz => ∃ (i : Nat), e = [(0, .slice A l.length c), (1, str v), (7, .int .i64 ((l.length : Nat) : Int)), (8, .int .i64 ((i : Nat) : Int))] ∧ Mem w AB [] wr ∧ (i ≤ l.length) ∧ (ixJ (fun _ z => decide (v = z)) 0 l = ixJ (fun _ z => decide (v = z)) i (l.drop i)) ∧ mz = l.length - i) ⟨0, rfl, M, Nat.zero_le _, rfl, rfl⟩ ⟨rfl, rfl, rfl, rfl, trivial⟩ ?_))))))))))))))
 rintro _ w1 _ ⟨i, rfl, M, hi, hr, rfl⟩
 refine A4 (A0 (ya rfl (CH rfl rfl rfl) (A1 (A2 (A4 (AQ (b := (decide (((i : Nat) : Int) < ((l.length : Nat) : Int)))) rfl (fun h9 => ?_) (fun h9 => ?_)))))))
 ·have h9p := (odt h9)
  refine AL (A2 (A4 (AV (A4 (A0 (yb rfl (yb rfl (A1 (A2 (A4 (A0 (yb rfl (yb rfl (yb rfl ?_))))))))))))))
  obtain ⟨x, hx⟩ := DY (l := l) (i := i) (by omega)
  obtain ⟨b_x, o_x, hA_x⟩ := CL (k := 1) (by omega) (hR.fr0 M.fr) hx
  refine ya rfl (BW i hA_x rfl rfl rfl (sl rfl) (by omega)) (yl rfl rfl (G1 FW (hR.fr0 M.fr) hA_x hx 0 rfl) (ya rfl (DG rfl rfl rfl) (A1 (A2 (AQ (b := (decide (v = x))) rfl (fun h16 => ?_) (fun h16 => ?_))))))
  ·have h16p := (odt h16)
   exact A4 (A0 (yb rfl (yb rfl (A1 (A2 (AD (AJ (AA (AA (AJ (AA (AH rfl rfl ⟨by rw [hr, BG hx, ixJ, if_pos h16], M.fr⟩))))))))))))
  ·have h16p := (odf h16)
   refine AL (AC (A2 (A0 (ya rfl (CQ rfl rfl rfl (by omega)) (yb rfl (A1 (BM [(0, .slice A l.length c), (1, str v), (7, .int .i64 ((l.length : Nat) : Int)), (8, .int .i64 (((i + 1) : Nat) : Int))] (l.length - (i + 1)) ⟨i + 1, rfl, M, ?_, ?_, rfl⟩ (by first | omega | (simp <;> omega)) ⟨rfl, rfl, rfl, rfl, trivial⟩)))))))
   ·omega
   ·rw [hr, BG hx, ixJ, if_neg (BA h16)]
 ·have h9p := (odf h9)
  refine CD (AI (AI (BB (A2 (A4 (A0 (yb rfl (A1 (A2 (AD (AH rfl rfl ?_)))))))))))
  obtain rfl : i = l.length := by omega
  exact ⟨by rw [hr, List.drop_length]; rfl, M.fr⟩
theorem X1 (A : Option Addr) (c : Nat) (l : List (List UInt8)) (v : List UInt8) (w : World) (hl : l.length ≤ 4611686018427387904) (hR : Rd w A (l.length * 1) (AR C4 l)) :
 Calls prog 67 #[.slice A l.length c, str v] w fun e w' => e = .returned (.bool (l.any (fun z => decide (v = z)))) ∧ Fr0 w w' := by
 refine AK (vs := [_, _]) func67 rfl ntmps67 rfl ?_
 have M := CK w
 refine A4 (A0 (yb rfl (A1 (A2 (A4 (A0 (yb rfl (yb rfl (cp M 7 rfl (AF rfl rfl call124) (o4 _ _ l _ _ (by first | omega | decide) (hR.fr0 M.fr)) fun w1 M => ya rfl (EP rfl rfl rfl) (yb rfl (A1 (A2 (AD (AH rfl rfl ?_))))))))))))))
 exact ⟨by rw [JN], M.fr⟩
theorem GW (w : World) :
 Calls prog 53 #[] w fun e w' => ∃ g, e = .returned (.map (some g)) ∧ Mp w' g D4 ∧ w.heap.size ≤ g ∧ Fr0 w w' := by
 refine AK (vs := []) func53 rfl ntmps53 rfl ?_
 have M := CK w
 refine A4 (A0 (yb rfl (A1 (A2 (A4 (A0 (HN M (A9 rfl) rfl rfl rfl fun g1 w1 hg1 M => ya rfl (BO (parts := [(0, _), (1, _)]) rfl rfl (C6 _ _)) (DH M 0 (A9 rfl) rfl rfl rfl rfl rfl underlying112 underlying9 rfl fun w2 M => ya rfl (BO (parts := [(0, _), (1, _)]) rfl rfl (C6 _ _)) (DH M 0 (A9 rfl) rfl rfl rfl rfl rfl underlying112 underlying9 rfl fun w3 M => ya rfl (BO (parts := [(0, _), (1, _)]) rfl rfl (C6 _ _)) ?_)))))))))
 refine DH M 0 (A9 rfl) rfl rfl rfl rfl rfl underlying112 underlying9 rfl fun w4 M => ya rfl (BO (parts := [(0, _), (1, _)]) rfl rfl (C6 _ _)) (DH M 0 (A9 rfl) rfl rfl rfl rfl rfl underlying112 underlying9 rfl fun w5 M => ya rfl (BO (parts := [(0, _), (1, _)]) rfl rfl (C6 _ _)) (DH M 0 (A9 rfl) rfl rfl rfl rfl rfl underlying112 underlying9 rfl fun w6 M => ya rfl (BO (parts := [(0, _), (1, _)]) rfl rfl (C6 _ _)) (DH M 0 (A9 rfl) rfl rfl rfl rfl rfl underlying112 underlying9 rfl fun w7 M => ya rfl (BO (parts := [(0, _), (1, _)]) rfl rfl (C6 _ _)) (DH M 0 (A9 rfl) rfl rfl rfl rfl rfl underlying112 underlying9 rfl fun w8 M => ya rfl (BO (parts := [(0, _), (1, _)]) rfl rfl (C6 _ _)) (DH M 0 (A9 rfl) rfl rfl rfl rfl rfl underlying112 underlying9 rfl ?_)))))
 intro w9 M
 refine ya rfl (BO (parts := [(0, _), (1, _)]) rfl rfl (C6 _ _)) (DH M 0 (A9 rfl) rfl rfl rfl rfl rfl underlying112 underlying9 rfl fun w10 M => ya rfl (BO (parts := [(0, _), (1, _)]) rfl rfl (C6 _ _)) (DH M 0 (A9 rfl) rfl rfl rfl rfl rfl underlying112 underlying9 rfl fun w11 M => ya rfl (BO (parts := [(0, _), (1, _)]) rfl rfl (C6 _ _)) (DH M 0 (A9 rfl) rfl rfl rfl rfl rfl underlying112 underlying9 rfl fun w12 M => ya rfl (BO (parts := [(0, _), (1, _)]) rfl rfl (C6 _ _)) (DH M 0 (A9 rfl) rfl rfl rfl rfl rfl underlying112 underlying9 rfl fun w13 M => ya rfl (BO (parts := [(0, _), (1, _)]) rfl rfl (C6 _ _)) (DH M 0 (A9 rfl) rfl rfl rfl rfl rfl underlying112 underlying9 rfl fun w14 M => yb rfl ?_)))))
 exact yb rfl (A1 (A2 (AD (AH rfl rfl ⟨_, rfl, M.mp 0 rfl, hg1, M.fr⟩))))
theorem MQ (v : List UInt8) (w : World) :
 Calls prog 141 #[str v] w fun e w' => e = .returned (.bool (HF v)) ∧ Fr0 w w' := by
 refine AK (vs := [_]) func141 rfl ntmps141 rfl ?_
 have M := CK w
 refine A4 (A0 (yb rfl (A1 (A2 (A4 (A0 (F1 M (A9 rfl) rfl rfl [str [97, 110, 100], str [111, 114], str [110, 111, 116], str [116, 114, 117, 101], str [102, 97, 108, 115, 101]] ([str [97, 110, 100], str [111, 114], str [110, 111, 116], str [116, 114, 117, 101], str [102, 97, 108, 115, 101]]) rfl rfl rfl rfl underlying45 D5 rfl rfl (by intro v hv; simp only [List.mem_cons, List.not_mem_nil, or_false] at hv; rcases hv with rfl | rfl | rfl | rfl | rfl <;> rfl) rfl fun g3 w1 hg3 M => yb rfl (cp M 5 rfl (AF rfl rfl call67) (X1 _ _ [[97, 110, 100], [111, 114], [110, 111, 116], [116, 114, 117, 101], [102, 97, 108, 115, 101]] _ _ (by first | omega | decide) (M.rdBlk 0 rfl rfl)) fun w2 M => yb rfl (A1 (A2 (AD (AH rfl rfl ?_))))))))))))
 exact ⟨by rw [j7], M.fr⟩
def E8 (t : List UInt8) (x : Lx) : Lx := (if ((decide (t = [116, 114, 117, 101])) || (decide (t = [102, 97, 108, 115, 101]))) = true then (⟨x.at_, .lit ⟨2, 0, (decide (t = [116, 114, 117, 101])), []⟩, x.say, x.tat, x.fin, x.e, x.wh⟩ : Lx) else (if (HF t) = true then (⟨x.at_, x.nd, t, x.tat, x.fin, x.e, x.wh⟩ : Lx) else (if (!(BU t)) = true then (x.fail 4 x.at_) else (⟨x.at_, .var t, x.say, x.tat, x.fin, x.e, x.wh⟩ : Lx))))
theorem dQ (s : List UInt8) (x : Lx) (gx : Nat) (t : List UInt8) (w : World) (hb : Blk w gx 104 (Lx.cells s x)) (ht : (t.length : Int) < 4611686018427387904) :
 Calls prog 109 #[pg gx, str t] w fun e w' => e = .returned (.tuple #[]) ∧ Blk w' gx 104 (Lx.cells s (E8 t x)) ∧ Fr (fun k => k = gx) w w' := by
 refine AK (vs := [_, _]) func109 rfl ntmps109 rfl ?_
 have M : Mem w (fun k => k = gx) [As.blk gx 104 (Lx.cells s x)] w := Mem.one hb
 refine AV (A4 (A0 (yb rfl (ya rfl (DG rfl rfl rfl) (yb rfl (AT 3 [(1, str t), (0, pg gx), (16, .bool ((decide (t = [116, 114, 117, 101])) || (decide (t = [102, 97, 108, 115, 101]))))] (fun w' => Mem w (fun k => k = gx) [As.blk gx 104 (Lx.cells s x)] w') ?_ (fun k13 => ?_)))))))
 ·intro w1 M
  refine yb rfl (A1 (A2 (AQ (b := ((decide (t = [116, 114, 117, 101])) || (decide (t = [102, 97, 108, 115, 101])))) rfl (fun h10 => ?_) (fun h10 => ?_))))
  ·have h10p := ((EK h10).imp (fun z => (odt z)) (fun z => (odt z)))
   exact A0 (yb rfl (yb rfl (ya rfl (DG rfl rfl rfl) (ya rfl (BO (parts := [(0, _), (2, _)]) rfl rfl (O4 _ _)) (ya rfl (BO (parts := [(0, _), (1, _)]) rfl rfl (EE _ _ _ _ _)) (yb rfl (yb rfl (yb rfl (B5 (cs' := [str s, .int .i64 ((x.at_ : Nat) : Int), .int .u8 1, .int .u8 2, .int .i64 0, .bool (decide (t = [116, 114, 117, 101])), str [], str [], .slice none 0 0, str x.say, .int .i64 ((x.tat : Nat) : Int), .bool x.fin, .int .i64 x.e, .int .i64 ((x.wh : Nat) : Int)]) M 0 (A9 rfl) rfl rfl rfl rfl rfl AM rfl (AP rfl) (AW rfl) rfl fun w2 M => A1 (AC (DC (Or.inr rfl) rfl ⟨rfl, by rw [E8, if_pos h10]; exact M.blk 0 rfl, M.fr⟩)))))))))))
  ·have h10p := (And.intro (odf (CA h10).1) (odf (CA h10).2))
   refine A4 (A0 (yb rfl (cp M 27 rfl (AF rfl rfl call141) (MQ _ _) fun w3 M => yb rfl (A1 (A2 (AQ (b := (HF t)) rfl (fun h25 => ?_) (fun h25 => ?_)))))))
   ·refine A0 ?_
    iterate 5 refine yb rfl ?_
    exact BQ (cs' := [str s, .int .i64 ((x.at_ : Nat) : Int), .int .u8 (x.nd.op.toNat : Int), .int .u8 (x.nd.vl.kind.toNat : Int), .int .i64 x.nd.vl.int, .bool x.nd.vl.bool, str x.nd.vl.text, str x.nd.nm, .slice none 0 0, str t, .int .i64 ((x.tat : Nat) : Int), .bool x.fin, .int .i64 x.e, .int .i64 ((x.wh : Nat) : Int)]) M 0 (A9 rfl) rfl rfl rfl rfl rfl rfl rfl EM (AZ rfl) rfl fun w4 M => A1 (AC (DC (Or.inr rfl) rfl ⟨rfl, by rw [E8, if_neg (BA h10), if_pos h25]; exact M.blk 0 rfl, M.fr⟩))
   ·refine A4 (A0 (yb rfl (cp M 35 rfl (AF rfl rfl call68) (DV _ _ (by omega)) fun w5 M => yb rfl (yb rfl (A1 (A2 (AQ (b := (!(BU t))) rfl (fun h33 => ?_) (fun h33 => ?_))))))))
    ·have h33p := (C1 h33)
     refine A0 ?_
     iterate 4 refine yb rfl ?_
     refine yl rfl rfl (M.cell 0 rfl rfl) (cl 42 rfl (AF rfl rfl call49) (EC s _ _ _ _ _ (M.blk 0 rfl)) ?_)
     rintro _ w6 ⟨rfl, hbw6, hfw6⟩
     have M := M.putB 0 rfl hbw6 hfw6
     exact ⟨_, rfl, A1 (AC (DC (Or.inr rfl) rfl ⟨rfl, by rw [E8, if_neg (BA h10), if_neg (BA h25), if_pos h33]; exact M.blk 0 rfl, M.fr⟩))⟩
    ·have h33p := (C3 h33)
     exact A0 (yb rfl (yb rfl (ya rfl (BO (parts := [(0, _), (2, _)]) rfl rfl (O3 _ _)) (yb rfl (yb rfl (yb rfl (B5 (cs' := [str s, .int .i64 ((x.at_ : Nat) : Int), .int .u8 2, .int .u8 0, .int .i64 0, .bool false, str [], str t, .slice none 0 0, str x.say, .int .i64 ((x.tat : Nat) : Int), .bool x.fin, .int .i64 x.e, .int .i64 ((x.wh : Nat) : Int)]) M 0 (A9 rfl) rfl rfl rfl rfl rfl AM rfl (AP rfl) (AW rfl) rfl fun w7 M => A1 (AC (DC (Or.inr rfl) rfl ⟨rfl, by rw [E8, if_neg (BA h10), if_neg (BA h25), if_neg (BA h33)]; exact M.blk 0 rfl, M.fr⟩)))))))))
 refine AE (d := 13) (b := (decide (t = [116, 114, 117, 101]))) rfl (fun h13 => ?_) (fun h13 => ?_)
 ·exact yo rfl (yo rfl (yb rfl (k13 _ _ M ⟨rfl, rfl, (by rw [h13]; rfl), trivial⟩)))
 ·exact yd rfl (yp rfl) (yd rfl (DG rfl rfl rfl) (yb rfl (k13 _ _ M ⟨rfl, rfl, (by rw [h13]; rfl), trivial⟩)))
section
section
variable {P : Program} {e : Env} {w : World} {o : Oper}
theorem ZE {s d : TypeId} {x : Operand} {v v' : Value} (ho : o.op = .convert s d x) (hx : ev e x = some v) (hc : (convert s d v).run P w = .ok v' w) : Y P e o w v' := fun ρ h => by
 unfold execOp; simp [ho, h _ _ hx, hc]
theorem bS {t t' el n : Nat} {a : Addr} {x y : Operand} (ho : o.op = .binOp .neq t x y t') (hx : ev e x = some (.pointer (some a))) (hy : ev e y = some (.pointer (some a))) (hu : HR P t = some el) (hz : ∀ w, (Go.sizeOf el).run P w = .ok n w) : Y P e o w (.bool false) := fun ρ h => by
 have h1 : (Op.equal t (.pointer (some a)) (.pointer (some a))).run P w = .ok true w := by
  unfold Op.equal Op.maxDepth Op.equalIn
  simp [run_underlying (I6 hu), hz, sameAddr]
 unfold execOp; simp [ho, h _ _ hx, h _ _ hy, eqGuard_at_pointer, binOp, h1]
theorem pQ {f : FuncId} {x : Operand} {ts : Array TypeId} {v : Value} (ho : o.op = .call { callee := .value (.func f), args := #[x], argTypes := ts }) (hx : ev e x = some v) (hc : ∀ (u : Value) (w : World), (callFunc f #[u]).run P w = .ok (.value u) w) : Y P e o w v := fun ρ h => by
 have h0 : ρ (.func f) = .func (.func f) #[] #[] := h _ _ rfl
 unfold execOp; simp [ho, h _ _ hx, h0, resolve, invoke, Deferred.ofValue, hc]
end
theorem Fr.below1 {w w' : World} {b B : Nat} (h : Fr (fun k => k = b) w w') (hb : B ≤ b) (hBw : B ≤ w.heap.size) : Below B w w' := ⟨h.os, h.tape, h.output, h.size, fun k hk => h.block k (by omega) (by omega)⟩
theorem sY (u : Value) (w : World) : (callFunc 185 #[u]).run prog w = .ok (.value u) w := by
 rw [run_callFunc_extern func185 (by kernel_rfl) (by kernel_rfl) (by kernel_rfl) (e := Extern.AbiNoEscape.same) (by kernel_rfl), Lib.run_noEscape]
 rfl
theorem lB : liesAt prog prog.depth 196 (2 / prog.cellsOf 196) 0 196 1 = true := by kernel_rfl
theorem lC : (prog.info? 196).map (·.size) = some 2 := by kernel_rfl
theorem i7 : (prog.info? 193).map (·.size) = some 1 := by kernel_rfl
theorem gP : (prog.info? 194).map (·.size) = some 1 := by kernel_rfl
theorem mC : (prog.info? 5).map (fun i => (i.zero, i.size, i.bytes)) = some (some (.int .u8 0), 1, 1) := by kernel_rfl
theorem qD : (prog.info? 5).map (fun i => (i.zero, i.size)) = some (some (.int .u8 0), 1) := by kernel_rfl
theorem UT (B b : Nat) (bs : List Value) (w : World) (h : Lib.IsBuilder 196 5 B b bs w) (hBw : B ≤ w.heap.size) :
 Calls prog 161 #[.pointer (some ⟨b, 0, none⟩)] w fun e w' => e = .returned (.tuple #[]) ∧ Lib.BuilderAt 196 5 B b (.pointer (some ⟨b, 0, none⟩)) bs w' ∧ Below B w w' := by
 rcases h with h | h
 ·have hsh := h.shape
  obtain ⟨hB, v, hbk, hown, hne⟩ := h
  have hb : Blk w b 196 [.pointer none, v] := hbk
  have c0 : Cell w.heap b 0 (.pointer none) := hb.c 0 rfl
  obtain ⟨j, hj, hjs⟩ := Option.map_eq_some_iff.1 lC
  refine AK (vs := [_]) func161 rfl ntmps161 rfl (A4 (A0 (yb rfl (yb rfl (yb rfl (yl rfl rfl (by assumption) (ya rfl (LZ rfl rfl rfl (pt rfl)) (A1 (A2 (DQ rfl (A0 (yb rfl (yb rfl (ya rfl (ZE rfl rfl (Lib.run_to_unsafe _ ⟨b, 0, none⟩ underlying193 underlying235 hj (by rw [hjs]; decide) hsh (by show 0 < 2; omega))) (ya rfl (pQ rfl rfl sY) ?_)))))))))))))))
  refine ya rfl (ZE rfl rfl (Lib.run_from_unsafe _ ⟨b, 0, none⟩ underlying235 underlying193 hj hsh lB)) (yb rfl (yb rfl (CI none (A9 rfl) rfl rfl (fun ρ hρ => DZ _ _ _ rfl b 0 _ _ (.pointer (some ⟨b, 0, none⟩)) (hρ _ _ rfl) (hρ _ _ rfl) rfl hb i7 (by show 0 < 2; omega) rfl) ?_)))
  rintro _ w1 ⟨rfl, hb1, hf1⟩
  exact A1 (DC (Or.inr rfl) rfl ⟨rfl, ⟨hB, v, hb1, Y3 hown hf1 (fun k hk e => hne (by rw [hk, e])), hne⟩, hf1.below1 hB hBw⟩)
 ·have h' := h
  obtain ⟨hB, v, hbk, hown, hne⟩ := h
  have hb : Blk w b 196 [.pointer (some ⟨b, 0, none⟩), v] := hbk
  have c0 : Cell w.heap b 0 (.pointer (some ⟨b, 0, none⟩)) := hb.c 0 rfl
  refine AK (vs := [_]) func161 rfl ntmps161 rfl (A4 (A0 (yb rfl (yb rfl (yb rfl (yl rfl rfl (by assumption) (ya rfl (LZ rfl rfl rfl (pt rfl)) (A1 (A2 (DB rfl (A4 (A0 (yb rfl (yb rfl (yb rfl ?_)))))))))))))))
  exact yl rfl rfl (by assumption) (yb rfl (ya rfl (bS rfl rfl rfl (pt rfl) sizeOf196) (A1 (A2 (DB rfl (AL (DC (Or.inr rfl) rfl ⟨rfl, h', Below.refl B w⟩)))))))
theorem M0 (B b : Nat) (l : List UInt8) (c : UInt8) (w : World) (h : Lib.IsBuilder 196 5 B b (bvs l) w) (hlen : l.length + 1 ≤ 140737488355328) (hBw : B ≤ w.heap.size) :
 Calls prog 143 #[.pointer (some ⟨b, 0, none⟩), .int .u8 (c.toNat : Int)] w fun e w' => e = .returned .nilIface ∧ Lib.IsBuilder 196 5 B b (bvs (l ++ [c])) w' ∧ Below B w w' := by
 refine AK (vs := [_, _]) func143 rfl ntmps143 rfl (A4 (A0 (yb rfl (A1 (A2 (A4 (A0 (yb rfl (cl 6 rfl (AF rfl rfl call161) (UT B b _ _ h hBw) ?_)))))))))
 rintro _ w1 ⟨rfl, h1, hb1⟩
 refine ⟨_, rfl, ?_⟩
 obtain ⟨hB, v, hbk, hown, hne⟩ := h1
 have hb : Blk w1 b 196 [.pointer (some ⟨b, 0, none⟩), v] := hbk
 obtain ⟨A, cap, rfl, _, hcm, hrd, _⟩ := W0 hown
 have c1 : Cell w1.heap b 1 (.slice A (bvs l).length cap) := hb.c 1 rfl
 refine A1 (A2 (A4 (A0 ?_)))
 iterate 4 refine yb rfl ?_
 refine yl rfl rfl (by assumption) (yb rfl (CI (some 13) (A9 rfl) rfl rfl (fun ρ hρ => E1 [bv c] (.int .u8 0) hρ rfl rfl rfl rfl underlying194 qD (by decide) (by decide) (by intro u hu; simp only [List.mem_singleton] at hu; subst hu; rfl)) ?_))
 rintro _ w2 ⟨g2, rfl, hg1, hg2, hb2, hf2⟩
 have hB1 := hb1.size
 refine CI (some 14) (A9 rfl) rfl rfl (fun ρ hρ => X0 _ _ 194 rfl B 5 _ _ underlying194 mC rfl _ _ (bvs l) (hρ _ _ rfl) (Y3 hown hf2 (fun _ _ hh => hh)) _ 1 1 [bv c] (hρ _ _ rfl) (Rd.ofBlk hb2 rfl) (by intro u hu; simp only [List.mem_singleton] at hu; subst hu; rfl) (by rw [RP]; unfold maxLen; omega) (by rw [RP]; omega) (by have := hf2.size; omega)) ?_
 rintro v3 w3 ⟨hown3, hgr, hrow⟩
 obtain ⟨A3, cap3, rfl, _, _, _, _⟩ := W0 hown3
 have hlt : b < w1.heap.size := hb.lt
 have hb3 : Blk w3 b 196 [.pointer (some ⟨b, 0, none⟩), .slice A (bvs l).length cap] := by
  have h2 : Blk w2 b 196 _ := hb.fr0 hf2
  exact (hgr.block b h2.lt (fun e => hne e.symm)).trans h2
 have hne3 : (Value.slice A3 ((bvs l).length + 1) cap3).ownBlock ≠ some b := Lib.ownBlock_ne hown3 hb3 (by decide)
 refine yb rfl (yb rfl (CI none (A9 rfl) rfl rfl (fun ρ hρ => DZ _ _ _ rfl b 1 _ _ (.slice A3 ((bvs l).length + 1) cap3) (hρ _ _ rfl) (hρ _ _ rfl) rfl hb3 gP (by show 1 < 2; omega) rfl) ?_))
 rintro _ w4 ⟨rfl, hb4, hf4⟩
 refine A1 (A2 (A4 (A0 (yb rfl (A1 (A2 (AD (AH rfl rfl ?_))))))))
 have hl : bvs (l ++ [c]) = bvs l ++ [bv c] := by simp [bvs]
 have hf3 : Fr (fun k => some k = (Value.slice A (bvs l).length cap).ownBlock) w2 w3 := ⟨hgr.os, hgr.tape, hgr.output, hgr.size, fun k hk hn => hgr.block k hk hn⟩
 refine ⟨rfl, .inr ⟨hB, _, hb4, ?_, ?_⟩, ?_⟩
 ·rw [hl]
  have := Y3 hown3 hf4 (fun k hk e => hne3 (by rw [hk, e]))
  simpa using this
 ·simpa using hne3
 ·have hw2 := hf2.size
  refine hb1.trans ⟨hf4.os.trans (hf3.os.trans hf2.os), hf4.tape.trans (hf3.tape.trans hf2.tape), hf4.output.trans (hf3.output.trans hf2.output), Nat.le_trans hf2.size (Nat.le_trans hf3.size hf4.size), fun k hk => ?_⟩
  rw [hf4.block k (by have := hf3.size; omega) (by omega), hf3.block k (by omega) (fun e => ?_), hf2.block k (by omega) (fun hh => hh)]
  have := (hown.lt k e.symm).1
  omega
end
end Go.Proofs.YtadgfojhjnkliaaGreatDoor
namespace Go.Proofs
open Go.Shelf
def Tryz.lays169_ren : Go.Shelf.Ren := ⟨fun | 169 => 142 | n => n, fun | 70 => 193 | 9 => 9 | 0 => 0 | 72 => 196 | 37 => 194 | 127 => 208 | 3 => 3 | 5 => 5 | n => n, fun | n => n⟩
theorem Tryz.lays169 : Go.Proofs.Lays.n169 prog Tryz.lays169_ren := {
 mixed := by kernel_rfl
 f169 := func142.trans (congrArg some (by kernel_rfl))
 t0 := underlying0
 a0 := isAgg0
 z0 := sizeOf0
 v0 := zeroValue0
 t3 := underlying3
 a3 := isAgg3
 z3 := sizeOf3
 v3 := zeroValue3
 t9 := underlying9
 a9 := isAgg9
 z9 := sizeOf9
 v9 := zeroValue9
 t37 := underlying194
 a37 := isAgg194
 z37 := sizeOf194
 v37 := zeroValue194
 t70 := underlying193
 a70 := isAgg193
 z70 := sizeOf193
 v70 := zeroValue193
 t72 := underlying196
 a72 := isAgg196
 z72 := sizeOf196
 v72 := zeroValue196
 t127 := underlying208
 a127 := isAgg208
 z127 := sizeOf208
 v127 := zeroValue208 }
theorem Tryz.Builder_Extra_169 : Builder.Extra prog Tryz.lays169_ren := {
 sizeBuilder := by kernel_rfl
 liesBuilder := by kernel_rfl
 t5 := underlying5
 a5 := isAgg5
 z5 := sizeOf5
 v5 := zeroValue5
 infoByte := by kernel_rfl
 cellsByte := by kernel_rfl
 sizeByte := by kernel_rfl
 neB5 := by decide }
def Tryz.lays161_ren : Go.Shelf.Ren := ⟨fun | 161 => 103 | 231 => 134 | 227 => 135 | 233 => 136 | 235 => 137 | 228 => 155 | 197 => 156 | 151 => 157 | 260 => 178 | 152 => 179 | 137 => 193 | 119 => 194 | 224 => 195 | 225 => 196 | 217 => 216 | 266 => 225 | n => n, fun | 9 => 9 | 4 => 4 | 3 => 3 | 5 => 5 | 117 => 183 | 116 => 182 | 0 => 0 | 124 => 186 | 105 => 203 | 21 => 21 | 119 => 175 | 46 => 213 | 139 => 212 | 138 => 211 | n => n, fun | 3 => 0 | 4 => 1 | n => n⟩
theorem Tryz.lays161 : Go.Proofs.Lays.n161 prog Tryz.lays161_ren := {
 mixed := by kernel_rfl
 f119 := func194.trans (congrArg some (by kernel_rfl))
 f137 := func193.trans (congrArg some (by kernel_rfl))
 f151 := func157.trans (congrArg some (by kernel_rfl))
 f152 := func179.trans (congrArg some (by kernel_rfl))
 f161 := func103.trans (congrArg some (by kernel_rfl))
 f197 := func156.trans (congrArg some (by kernel_rfl))
 f217 := func216.trans (congrArg some (by kernel_rfl))
 f224 := func195.trans (congrArg some (by kernel_rfl))
 f225 := func196.trans (congrArg some (by kernel_rfl))
 f227 := func135.trans (congrArg some (by kernel_rfl))
 f228 := func155.trans (congrArg some (by kernel_rfl))
 f231 := func134.trans (congrArg some (by kernel_rfl))
 f233 := func136.trans (congrArg some (by kernel_rfl))
 f235 := func137.trans (congrArg some (by kernel_rfl))
 f260 := func178.trans (congrArg some (by kernel_rfl))
 f266 := func225.trans (congrArg some (by kernel_rfl))
 t0 := underlying0
 a0 := isAgg0
 z0 := sizeOf0
 v0 := zeroValue0
 t3 := underlying3
 a3 := isAgg3
 z3 := sizeOf3
 v3 := zeroValue3
 t4 := underlying4
 a4 := isAgg4
 z4 := sizeOf4
 v4 := zeroValue4
 t5 := underlying5
 a5 := isAgg5
 z5 := sizeOf5
 v5 := zeroValue5
 t9 := underlying9
 a9 := isAgg9
 z9 := sizeOf9
 v9 := zeroValue9
 t21 := underlying21
 a21 := isAgg21
 z21 := sizeOf21
 v21 := zeroValue21
 t46 := underlying213
 a46 := isAgg213
 z46 := sizeOf213
 v46 := zeroValue213
 t105 := underlying203
 a105 := isAgg203
 z105 := sizeOf203
 v105 := zeroValue203
 t116 := underlying182
 a116 := isAgg182
 z116 := sizeOf182
 t117 := underlying183
 a117 := isAgg183
 z117 := sizeOf183
 v117 := zeroValue183
 t119 := underlying175
 a119 := isAgg175
 z119 := sizeOf175
 t124 := underlying186
 a124 := isAgg186
 z124 := sizeOf186
 v124 := zeroValue186
 t138 := underlying211
 a138 := isAgg211
 z138 := sizeOf211
 v138 := zeroValue211
 t139 := underlying212
 a139 := isAgg212
 z139 := sizeOf212
 v139 := zeroValue212
 g3 := by kernel_rfl
 g4 := by kernel_rfl }
open Go.RowKit in
theorem Tryz.strings_TrimLeft_one (s : ByteArray) (c : UInt8) (hc : c.toNat < 128) (w : World) :
 Calls prog 103 #[.string s, .string ⟨#[c]⟩] w fun e w' => e = .returned (.string ⟨(Lib.trimLeftB s.data.toList c).toArray⟩) ∧ w' = w := Any.strings_TrimLeft_one Tryz.lays161 s c hc w
open Go.RowKit in
theorem Tryz.Builder_String_any_f (B b : Nat) (l : List UInt8) (w : World) (h : Lib.IsBuilderF 196 5 B b (Lib.byteCells l) w) (hBw : B ≤ w.heap.size) :
 Calls prog 142 #[.pointer (some ⟨b, 0, none⟩)] w fun e w' => e = .returned (.string ⟨l.toArray⟩) ∧ (Lib.IsBuilderF 196 5 B b (Lib.byteCells l) w' ∧ Below B w w') := Any.Builder_String_any_f Tryz.lays169 Tryz.Builder_Extra_169 B b l w h hBw
def Tryz.laysC174_ren : Go.Shelf.Ren := ⟨fun | 174 => 140 | 247 => 159 | 245 => 160 | 287 => 180 | 279 => 181 | 280 => 182 | 281 => 183 | 282 => 184 | 321 => 197 | 322 => 198 | 316 => 199 | 171 => 201 | 205 => 200 | 243 => 217 | 246 => 226 | 283 => 242 | 284 => 243 | 285 => 244 | 286 => 245 | 129 => 214 | 317 => 254 | 318 => 255 | 319 => 256 | 320 => 257 | 337 => 259 | 338 => 260 | n => n, fun | 9 => 9 | 3 => 3 | 2 => 2 | 75 => 190 | 85 => 191 | 4 => 4 | 167 => 228 | 5 => 5 | 53 => 229 | 175 => 230 | 46 => 213 | 168 => 232 | 37 => 194 | 0 => 0 | 210 => 249 | 21 => 21 | 127 => 208 | 145 => 267 | 143 => 265 | 171 => 289 | 173 => 291 | 212 => 302 | 51 => 263 | 20 => 20 | 213 => 303 | 232 => 309 | 233 => 310 | 80 => 197 | n => n, fun | 15 => 2 | 16 => 3 | 17 => 5 | 18 => 6 | 19 => 7 | n => n⟩
theorem Tryz.laysC174 : Go.Proofs.LaysC.n174 prog Tryz.laysC174_ren := {
 mixed := by kernel_rfl
 f129 := func214.trans (congrArg some (by kernel_rfl))
 f171 := func201.trans (congrArg some (by kernel_rfl))
 f174 := func140.trans (congrArg some (by kernel_rfl))
 f205 := func200.trans (congrArg some (by kernel_rfl))
 f243 := func217.trans (congrArg some (by kernel_rfl))
 f245 := func160.trans (congrArg some (by kernel_rfl))
 f246 := func226.trans (congrArg some (by kernel_rfl))
 f247 := func159.trans (congrArg some (by kernel_rfl))
 f279 := func181.trans (congrArg some (by kernel_rfl))
 f280 := func182.trans (congrArg some (by kernel_rfl))
 f281 := func183.trans (congrArg some (by kernel_rfl))
 f282 := func184.trans (congrArg some (by kernel_rfl))
 f283 := func242.trans (congrArg some (by kernel_rfl))
 f284 := func243.trans (congrArg some (by kernel_rfl))
 f285 := func244.trans (congrArg some (by kernel_rfl))
 f286 := func245.trans (congrArg some (by kernel_rfl))
 f287 := func180.trans (congrArg some (by kernel_rfl))
 f316 := func199.trans (congrArg some (by kernel_rfl))
 f317 := func254.trans (congrArg some (by kernel_rfl))
 f318 := func255.trans (congrArg some (by kernel_rfl))
 f319 := func256.trans (congrArg some (by kernel_rfl))
 f320 := func257.trans (congrArg some (by kernel_rfl))
 f321 := func197.trans (congrArg some (by kernel_rfl))
 f322 := func198.trans (congrArg some (by kernel_rfl))
 f337 := func259.trans (congrArg some (by kernel_rfl))
 f338 := func260.trans (congrArg some (by kernel_rfl))
 t0 := underlying0
 a0 := isAgg0
 z0 := sizeOf0
 v0 := zeroValue0
 t2 := underlying2
 a2 := isAgg2
 z2 := sizeOf2
 v2 := zeroValue2
 t3 := underlying3
 a3 := isAgg3
 z3 := sizeOf3
 v3 := zeroValue3
 t4 := underlying4
 a4 := isAgg4
 z4 := sizeOf4
 v4 := zeroValue4
 t5 := underlying5
 a5 := isAgg5
 z5 := sizeOf5
 v5 := zeroValue5
 t9 := underlying9
 a9 := isAgg9
 z9 := sizeOf9
 v9 := zeroValue9
 t20 := underlying20
 a20 := isAgg20
 z20 := sizeOf20
 v20 := zeroValue20
 t21 := underlying21
 a21 := isAgg21
 z21 := sizeOf21
 v21 := zeroValue21
 t37 := underlying194
 a37 := isAgg194
 z37 := sizeOf194
 v37 := zeroValue194
 t46 := underlying213
 a46 := isAgg213
 z46 := sizeOf213
 v46 := zeroValue213
 t51 := underlying263
 a51 := isAgg263
 z51 := sizeOf263
 v51 := zeroValue263
 t53 := underlying229
 a53 := isAgg229
 z53 := sizeOf229
 v53 := zeroValue229
 t75 := underlying190
 a75 := isAgg190
 z75 := sizeOf190
 v75 := zeroValue190
 t85 := underlying191
 a85 := isAgg191
 z85 := sizeOf191
 v85 := zeroValue191
 t127 := underlying208
 a127 := isAgg208
 z127 := sizeOf208
 v127 := zeroValue208
 t143 := underlying265
 a143 := isAgg265
 z143 := sizeOf265
 v143 := zeroValue265
 t145 := underlying267
 a145 := isAgg267
 z145 := sizeOf267
 v145 := zeroValue267
 t167 := underlying228
 a167 := isAgg228
 z167 := sizeOf228
 v167 := zeroValue228
 t168 := underlying232
 a168 := isAgg232
 z168 := sizeOf232
 v168 := zeroValue232
 t171 := underlying289
 a171 := isAgg289
 z171 := sizeOf289
 v171 := zeroValue289
 t173 := underlying291
 a173 := isAgg291
 z173 := sizeOf291
 v173 := zeroValue291
 t175 := underlying230
 a175 := isAgg230
 z175 := sizeOf230
 v175 := zeroValue230
 t210 := underlying249
 a210 := isAgg249
 z210 := sizeOf249
 v210 := zeroValue249
 t212 := underlying302
 a212 := isAgg302
 z212 := sizeOf302
 v212 := zeroValue302
 t213 := underlying303
 a213 := isAgg303
 z213 := sizeOf303
 t232 := underlying309
 a232 := isAgg309
 z232 := sizeOf309
 v232 := zeroValue309
 t233 := underlying310
 a233 := isAgg310
 z233 := sizeOf310
 v233 := zeroValue310
 g15 := by kernel_rfl
 g16 := by kernel_rfl
 g17 := by kernel_rfl
 g18 := by kernel_rfl
 g19 := by kernel_rfl
 t80 := underlying197
 a80 := isAgg197
 z80 := sizeOf197
 v80 := zeroValue197
 i0 := by kernel_rfl
 i2 := by kernel_rfl
 i3 := by kernel_rfl
 i4 := by kernel_rfl
 i5 := by kernel_rfl
 i9 := by kernel_rfl
 i20 := by kernel_rfl
 i21 := by kernel_rfl
 i37 := by kernel_rfl
 i46 := by kernel_rfl
 i51 := by kernel_rfl
 i53 := by kernel_rfl
 i75 := by kernel_rfl
 i80 := by kernel_rfl
 i85 := by kernel_rfl
 i127 := by kernel_rfl
 i143 := by kernel_rfl
 i145 := by kernel_rfl
 i167 := by kernel_rfl
 i168 := by kernel_rfl
 i171 := by kernel_rfl
 i173 := by kernel_rfl
 i175 := by kernel_rfl
 i210 := by kernel_rfl
 i212 := by kernel_rfl
 i232 := by kernel_rfl
 i233 := by kernel_rfl
 m15 := by kernel_rfl
 m16 := by kernel_rfl
 m17 := by kernel_rfl
 m18 := by kernel_rfl
 m19 := by kernel_rfl
 c0 := by kernel_rfl
 c2 := by kernel_rfl
 c3 := by kernel_rfl
 c4 := by kernel_rfl
 c5 := by kernel_rfl
 c9 := by kernel_rfl
 c20 := by kernel_rfl
 c21 := by kernel_rfl
 c37 := by kernel_rfl
 c46 := by kernel_rfl
 c51 := by kernel_rfl
 c53 := by kernel_rfl
 c75 := by kernel_rfl
 c80 := by kernel_rfl
 c85 := by kernel_rfl
 c127 := by kernel_rfl
 c143 := by kernel_rfl
 c145 := by kernel_rfl
 c167 := by kernel_rfl
 c168 := by kernel_rfl
 c171 := by kernel_rfl
 c173 := by kernel_rfl
 c175 := by kernel_rfl
 c210 := by kernel_rfl
 c212 := by kernel_rfl
 c213 := by kernel_rfl
 c232 := by kernel_rfl
 c233 := by kernel_rfl }
open Go.RowKit in
theorem Tryz.strconv_ParseInt_10_at64_ok (s : ByteArray) (hmax : s.size ≤ 9223372036854775806) (v : Int) (h : Lib.parseIntB 64 s.data.toList = .ok v) (w : World) :
 Calls prog 140 #[.string s, .int .i64 10, .int .i64 64] w fun e w' => e = .returned (.tuple #[.int .i64 v, .nilIface]) ∧ (w' = w ∨ ∃ t, w' = Lib.bytesWorld w 5 t) := Any.strconv_ParseInt_10_at64_ok Tryz.laysC174 s hmax v h w
open Go.RowKit in
theorem Tryz.strconv_ParseInt_10_at64_syntax (s : ByteArray) (hlim : s.size ≤ 281474976710656) (h : Lib.parseIntB 64 s.data.toList = Lib.NumEnd.syntax) (ev : Value) (w : World) (hv : w.cell? ⟨2, 0, none⟩ = some ev) (hev : ev = .nilIface ∨ ∃ te pe, ev = .iface te pe) :
 Calls prog 140 #[.string s, .int .i64 10, .int .i64 64] w fun e w' => ∃ N, e = .returned (.tuple #[.int .i64 (0), .iface 232 (.pointer (some ⟨N, 0, none⟩))]) ∧ w.heap.size ≤ N ∧ w'.heap[N]? = some (.cells #[.string ⟨#[80, 97, 114, 115, 101, 73, 110, 116]⟩, .string s, ev] 249 (0, 0)) ∧ Below w.heap.size w w' := Any.strconv_ParseInt_10_at64_syntax Tryz.laysC174 s hlim h ev w hv hev
open Go.RowKit in
theorem Tryz.strconv_ParseInt_10_at64_range (s : ByteArray) (hlim : s.size ≤ 281474976710656) (h : Lib.parseIntB 64 s.data.toList = .range) (ev : Value) (w : World) (hv : w.cell? ⟨3, 0, none⟩ = some ev) (hev : ev = .nilIface ∨ ∃ te pe, ev = .iface te pe) :
 Calls prog 140 #[.string s, .int .i64 10, .int .i64 64] w fun e w' => ∃ N, e = .returned (.tuple #[.int .i64 (Lib.intSat 64 s.data.toList), .iface 232 (.pointer (some ⟨N, 0, none⟩))]) ∧ w.heap.size ≤ N ∧ w'.heap[N]? = some (.cells #[.string ⟨#[80, 97, 114, 115, 101, 73, 110, 116]⟩, .string s, ev] 249 (0, 0)) ∧ Below w.heap.size w w' := Any.strconv_ParseInt_10_at64_range Tryz.laysC174 s hlim h ev w hv hev
def Tryz.laysGw15_ren : Go.Shelf.Ren := ⟨fun | 15 => 138 | 20 => 158 | n => n, fun | 9 => 9 | 23 => 188 | 3 => 3 | 4 => 4 | 0 => 0 | 21 => 21 | n => n, fun | n => n⟩
theorem Tryz.laysGw15 : Go.Proofs.LaysGw.n15 prog Tryz.laysGw15_ren := {
 mixed := by kernel_rfl
 f15 := func138.trans (congrArg some (by kernel_rfl))
 f20 := func158.trans (congrArg some (by kernel_rfl))
 t0 := underlying0
 a0 := isAgg0
 z0 := sizeOf0
 v0 := zeroValue0
 i0 := by kernel_rfl
 t3 := underlying3
 a3 := isAgg3
 z3 := sizeOf3
 v3 := zeroValue3
 i3 := by kernel_rfl
 t4 := underlying4
 a4 := isAgg4
 z4 := sizeOf4
 v4 := zeroValue4
 i4 := by kernel_rfl
 t9 := underlying9
 a9 := isAgg9
 z9 := sizeOf9
 v9 := zeroValue9
 i9 := by kernel_rfl
 t21 := underlying21
 a21 := isAgg21
 z21 := sizeOf21
 v21 := zeroValue21
 i21 := by kernel_rfl
 t23 := underlying188
 a23 := isAgg188
 z23 := sizeOf188
 v23 := zeroValue188
 i23 := by kernel_rfl }
open Go.RowKit Go.Lib in
theorem Tryz.strings_IndexFunc_grows (g : Nat) (lb : Array Value) (eg : ∀ args w, (callFunc g args).run prog w = .ok (.enter g args) w) (p : Nat → Bool) (s : ByteArray) (w : World) (hp : PredGrows prog g lb p w) :
 Calls prog 138 #[.string s, .func (.func g) #[] lb] w fun e w' => e = .returned (.int .i64 (Lib.idxFunc p true s)) ∧ Below w.heap.size w w' := Any.strings_IndexFunc_grows Tryz.laysGw15 g lb eg p s w hp
end Go.Proofs
namespace Go.Proofs.YtadgfojhjnkliaaGreatDoor
open Go.RowKit
open Tryz
theorem fT (l : List UInt8) (w : World) : Calls prog 103 #[str l, str [32]] w fun e w' => e = .returned (str (LS l)) ∧ w = w' := by
 refine (Tryz.strings_TrimLeft_one ⟨l.toArray⟩ 32 (by decide) w).mono ?_
 rintro e w' ⟨rfl, rfl⟩
 exact ⟨rfl, rfl⟩
def MJ (l : List UInt8) : Int × Bool := match Lib.parseIntB 64 l with
 | .ok v => (v, true)
 | .range => (Lib.intSat 64 l, false)
 | _ => (0, false)
def bR (w : World) : Prop := (∃ t p, w.cell? ⟨2, 0, none⟩ = some (.iface t p)) ∧ ∃ t p, w.cell? ⟨3, 0, none⟩ = some (.iface t p)
def tL (ok : Bool) (v : Value) : Prop := (ok = true ∧ v = .nilIface) ∨ (ok = false ∧ ∃ t p, v = .iface t (.pointer p))
theorem nB (l : List UInt8) (w : World) (hl : l.length ≤ 281474976710656) (hE : bR w) : Calls prog 140 #[str l, .int .i64 10, .int .i64 64] w fun e w' => ∃ v, e = .returned (.tuple #[.int .i64 (MJ l).1, v]) ∧ tL (MJ l).2 v ∧ Fr0 w w' := by
 have hs : (ByteArray.mk l.toArray).size = l.length := by show l.toArray.size = _; simp
 have hd : (ByteArray.mk l.toArray).data.toList = l := rfl
 obtain ⟨⟨t, p, h1⟩, t', p', h2⟩ := hE
 cases hq : Lib.parseIntB 64 l with
 | ok v =>
  refine (Tryz.strconv_ParseInt_10_at64_ok ⟨l.toArray⟩ (by omega) v (by rw [hd]; exact hq) w).mono ?_
  rintro e w' ⟨rfl, hw⟩
  refine ⟨.nilIface, by unfold MJ; rw [hq], .inl ⟨by unfold MJ; rw [hq], rfl⟩, ?_⟩
  rcases hw with rfl | ⟨t, rfl⟩
  ·exact Fr.refl
  ·exact Fr.ofBelow (Lib.bytesWorld_below w _ t)
 | range =>
  refine (Tryz.strconv_ParseInt_10_at64_range ⟨l.toArray⟩ (by omega) (by rw [hd]; exact hq) _ w h2 (.inr ⟨t', p', rfl⟩)).mono ?_
  rintro e w' ⟨N, rfl, _, _, hb⟩
  exact ⟨_, by unfold MJ; rw [hq, hd], .inr ⟨by unfold MJ; rw [hq], _, _, rfl⟩, Fr.ofBelow hb⟩
 | _ =>
  refine (Tryz.strconv_ParseInt_10_at64_syntax ⟨l.toArray⟩ (by omega) (by rw [hd]; exact hq) _ w h1 (.inr ⟨t, p, rfl⟩)).mono ?_
  rintro e w' ⟨N, rfl, _, _, hb⟩
  exact ⟨_, by unfold MJ; rw [hq], .inr ⟨by unfold MJ; rw [hq], _, _, rfl⟩, Fr.ofBelow hb⟩
theorem fC {e : Env} {w : World} {o : Oper} {t' : Nat} {x : Operand} {v : Value} {ok : Bool} (ho : o.op = .binOp .neq 190 x (.const .nilIface) t') (hx : ev e x = some v) (hv : tL ok v) : Y prog e o w (.bool (!ok)) := fun ρ h => by
 have hc : ρ (.const .nilIface) = .nilIface := h _ _ rfl
 rcases hv with ⟨rfl, rfl⟩ | ⟨rfl, t, p, rfl⟩
 ·have h1 : (Op.equal 190 .nilIface .nilIface).run prog w = .ok true w := by
   unfold Op.equal Op.maxDepth Op.equalIn
   simp [run_underlying underlying190]
  unfold execOp
  simp [ho, h _ _ hx, hc, eqGuard_nil_constR, binOp, h1]
 ·have h1 : (Op.equal 190 (.iface t (.pointer p)) .nilIface).run prog w = .ok false w := by
   unfold Op.equal Op.maxDepth Op.equalIn
   simp [run_underlying underlying190]
  unfold execOp
  simp [ho, h _ _ hx, hc, eqGuard_at_iface, binOp, h1]
def KV (is : UInt8 → Bool) (x : Nat) : Bool := decide (127 < x) || !(is (UInt8.ofNat x))
theorem gJ (is : UInt8 → Bool) (x : Nat) : (decide ((127 : Int) < (x : Int)) || (!(is (UInt8.ofNat x)))) = KV is x := by
 unfold KV
 by_cases h : 127 < x
 ·simp [h, show (127 : Int) < (x : Int) by omega]
 ·simp [h, show ¬ (127 : Int) < (x : Int) by omega]
theorem lY {x : Nat} : (IntKind.u8).wrap (x : Int) = ((UInt8.ofNat x).toNat : Int) := by
 simp [IntKind.wrap, IntKind.bits, IntKind.signed]
def JS (is : UInt8 → Bool) (l : List UInt8) : Int := Lib.idxFunc (KV is) true ⟨l.toArray⟩
def spanP (is : UInt8 → Bool) (l : List UInt8) : Nat := if JS is l < 0 then l.length else (JS is l).toNat
theorem gM (is : UInt8 → Bool) (l : List UInt8) : JS is l < l.length := by
 have h := Lib.idxFuncFrom_range (KV is) true ⟨l.toArray⟩ (ByteArray.mk l.toArray).size 0
 have hs : (ByteArray.mk l.toArray).size = l.length := by show l.toArray.size = _; simp
 rcases h with h | ⟨_, h⟩
 ·unfold JS Lib.idxFunc; rw [h]; omega
 ·unfold JS Lib.idxFunc; omega
theorem MC (is : UInt8 → Bool) (l : List UInt8) : spanP is l ≤ l.length := by
 unfold spanP; have := gM is l; split <;> omega
theorem gK {is : UInt8 → Bool} {l : List UInt8} (h : JS is l < 0) : spanP is l = l.length := if_pos h
theorem gL {is : UInt8 → Bool} {l : List UInt8} (h : ¬ JS is l < 0) : JS is l = ((spanP is l : Nat) : Int) := by
 unfold spanP; rw [if_neg h]; omega
theorem gN (is : UInt8 → Bool) (g : FuncId) (hfn : ∀ (ar : Array Value) (w : World), (callFunc g ar).run prog w = .ok (.enter g ar) w) (hc : ∀ (b : UInt8) (w : World), Calls prog g #[.int .u8 (b.toNat : Int)] w fun e w' => e = .returned (.bool (is b)) ∧ Fr0 w w') (x : Nat) (g3 : Nat) (w : World) (hb : Blk w g3 158 [.func (.func g) #[] #[]]) :
 Calls prog 139 #[.int .i32 (x : Int), pg g3] w fun e w' => e = .returned (.bool (KV is x)) ∧ Fr0 w w' := by
 refine AK (vs := [_, _]) func139 rfl ntmps139 rfl ?_
 have M := CK w
 refine A4 (A0 (yb rfl (A1 (A2 (A4 (A0 (yb rfl (ya rfl (FR rfl rfl rfl) (yb rfl (AT 6 [(3, .bool false), (12, .bool ((decide ((127 : Int) < (x : Int))) || (!(is (UInt8.ofNat x)))))] (fun w' => Mem w AB [] w') ?_ (fun k6 => ?_)))))))))))
 ·intro w1 M
  exact yb rfl (A1 (A2 (AD (AH rfl rfl ⟨by rw [gJ], M.fr⟩))))
 refine AE (d := 6) (b := (decide ((127 : Int) < (x : Int)))) rfl (fun h6 => ?_) (fun h6 => ?_)
 ·iterate 5 refine yo rfl ?_
  exact yb rfl (k6 _ _ M ⟨rfl, (by rw [h6]; rfl), trivial⟩)
 ·refine ym rfl rfl (Blk.c (hb.fr0 M.fr) 0 rfl) (yd rfl (yp rfl) (yd rfl (bV (r := ((UInt8.ofNat x).toNat : Int)) rfl rfl underlying21 underlying5 lY) (CC (some 10) (B7 rfl rfl rfl) rfl rfl (C0 rfl rfl rfl hfn) (hc _ _) ?_)))
  rintro _ w2 ⟨rfl, hfw2⟩
  refine ⟨_, rfl, ?_⟩
  have M := M.step hfw2
  exact yd rfl (yp rfl) (yb rfl (k6 _ _ M ⟨rfl, (by rw [h6]; rfl), trivial⟩))
theorem rJ (is : UInt8 → Bool) (g : FuncId) (hfn : ∀ (ar : Array Value) (w : World), (callFunc g ar).run prog w = .ok (.enter g ar) w) (hc : ∀ (b : UInt8) (w : World), Calls prog g #[.int .u8 (b.toNat : Int)] w fun e w' => e = .returned (.bool (is b)) ∧ Fr0 w w') (l : List UInt8) (g3 : Nat) (w : World) (hb : Blk w g3 158 [.func (.func g) #[] #[]]) :
 Calls prog 138 #[str l, .func (.func 139) #[] #[.pointer (some ⟨g3, 0, none⟩)]] w fun e w' => e = .returned (.int .i64 (JS is l)) ∧ Fr0 w w' := by
 refine (Tryz.strings_IndexFunc_grows 139 #[.pointer (some ⟨g3, 0, none⟩)] call139 (KV is) ⟨l.toArray⟩ w ?_).mono ?_
 ·intro W x _ hbW
  exact (gN is g hfn hc x g3 W (hb.fr0 (Fr.ofBelow hbW))).mono fun _ _ ⟨h1, h2⟩ => ⟨h1, h2.below⟩
 ·rintro e w' ⟨rfl, hb'⟩
  exact ⟨rfl, Fr.ofBelow hb'⟩
theorem ZQ (is : UInt8 → Bool) (g : FuncId) (hfn : ∀ (ar : Array Value) (w : World), (callFunc g ar).run prog w = .ok (.enter g ar) w) (hc : ∀ (b : UInt8) (w : World), Calls prog g #[.int .u8 (b.toNat : Int)] w fun e w' => e = .returned (.bool (is b)) ∧ Fr0 w w') (l : List UInt8) (w : World) :
 Calls prog 105 #[str l, .func (.func g) #[] #[]] w fun e w' => e = .returned (.int .i64 ((spanP is l : Nat) : Int)) ∧ Fr0 w w' := by
 refine AK (vs := [_, _]) func105 rfl ntmps105 rfl ?_
 have M := CK w
 refine A4 (A0 (BD M (A9 rfl) rfl rfl 158 rfl rfl ([.func (.func g) #[] #[]]) rfl fun g3 w1 hg3 M => yb rfl (A1 (A2 (A4 (A0 (yb rfl (ya rfl (CT (us := []) (vs := [pg g3]) rfl rfl rfl) (cp M 8 rfl (AF rfl rfl call138) (rJ is g hfn hc l _ _ (M.blk 0 rfl)) fun w9 M => yb rfl (A1 (A2 (A4 ?_))))))))))))
 refine A4 (A0 (yb rfl (ya rfl (CH rfl rfl rfl) (A1 (A2 (AQ (b := (decide ((JS is l) < (0 : Int)))) rfl (fun h10 => ?_) (fun h10 => ?_)))))))
 ·have h10p := (odt h10)
  exact A4 (A0 (yb rfl (ya rfl (EO rfl rfl underlying9) (yb rfl (A1 (A2 (AD (AA (AH rfl rfl ⟨by rw [gK h10p], M.fr⟩)))))))))
 ·have h10p := (odf h10)
  exact AL (A2 (A4 (A0 (yb rfl (yb rfl (A1 (A2 (AD (AH rfl rfl ⟨by rw [gL h10p], M.fr⟩)))))))))
def nGlob : Nat := max (max 0 1) (max 2 3) + 1
structure Lay0 (w : World) : Prop where
 utf : Laid w utfL
 err : bR w
 size : nGlob ≤ w.heap.size
theorem W3 : (Nat.blt 0 nGlob && (Nat.blt 1 nGlob && (Nat.blt 2 nGlob && Nat.blt 3 nGlob))) = true := by kernel_rfl
theorem Lay0.fr {S : Nat → Prop} {w w' : World} (h : Lay0 w) (hf : Fr S w w') (hS : ∀ k, S k → nGlob ≤ k) : Lay0 w' := by
 have hn := W3
 simp only [Bool.and_eq_true] at hn
 obtain ⟨n1, n2, n3, n4⟩ := hn
 replace n1 := AZ n1
 replace n2 := AZ n2
 replace n3 := AZ n3
 replace n4 := AZ n4
 have no : ∀ g, g < nGlob → ¬ S g := fun g hg hs => by have := hS g hs; omega
 refine ⟨fun p hp => ?_, ?_, Nat.le_trans h.size hf.size⟩
 ·obtain ⟨el, fz, h1⟩ := h.utf p hp
  have hp1 : p.1 < nGlob := by
   simp only [utfL, List.mem_cons, List.not_mem_nil, or_false] at hp
   rcases hp with rfl | rfl
   ·exact n1
   ·exact n2
  exact ⟨el, fz, (hf.block _ (Array.getElem?_eq_some_iff.1 h1).1 (no _ hp1)).trans h1⟩
 ·obtain ⟨t, p, h1⟩ := h.err.1
  obtain ⟨t', p', h2⟩ := h.err.2
  exact ⟨⟨t, p, (hf.cell (World.block_lt_of_cell? w _ h1) (no _ n3)).trans h1⟩, t', p', (hf.cell (World.block_lt_of_cell? w _ h2) (no _ n4)).trans h2⟩
theorem OO {l : List UInt8} {c : UInt8} (h : l[0]? = some c) : l.headD 0 = c := by cases l <;> simp_all
theorem SS {a b : Prop} (h : ¬ a ∨ ¬ b) : ¬ (a ∧ b) := fun ⟨h1, h2⟩ => h.elim (fun h => h h1) (fun h => h h2)
def GA (t : List UInt8) (x : Lx) : Lx :=
 if ((t.headD 0).toNat : Int) = 48 ∧ (1 : Int) < ((t.length : Nat) : Int) then x.fail 4 x.at_
 else if (MJ t).2 = true then { x with nd := .lit ⟨1, (MJ t).1, false, []⟩ }
 else { (x.fail 91 x.at_) with nd := .lit ⟨1, (MJ t).1, false, []⟩ }
def qt : List UInt8 → List UInt8 → Option (List UInt8 × Nat)
 | _, [] => none
 | b, [c] => if (c.toNat : Int) = 39 then some (b, 0) else none
 | b, c :: d :: r => if (c.toNat : Int) = 39 then (if (d.toNat : Int) = 39 then qt (b ++ [d]) r else some (b, r.length + 1)) else qt (b ++ [c]) (d :: r)
theorem hX {l b : List UInt8} {i : Nat} {c : UInt8} (hc : l[i]? = some c) (h : ¬ (c.toNat : Int) = 39) : qt b (l.drop i) = qt (b ++ [c]) (l.drop (i + 1)) := by
 rw [BG hc]
 cases l.drop (i + 1) with
 | nil => rw [show qt b [c] = if (c.toNat : Int) = 39 then some (b, 0) else none from rfl, if_neg h]; rfl
 | cons d r => rw [qt, if_neg h]
theorem hH {l b : List UInt8} {i : Nat} {c d : UInt8} (hc : l[i]? = some c) (hd : l[i + 1]? = some d) (h : (c.toNat : Int) = 39) (h2 : (d.toNat : Int) = 39) : qt b (l.drop i) = qt (b ++ [d]) (l.drop (i + 2)) := by
 rw [BG hc, BG hd, qt, if_pos h, if_pos h2]
theorem hZ {l b : List UInt8} {i : Nat} {c : UInt8} (hc : l[i]? = some c) (h : (c.toNat : Int) = 39) (he : ((i + 1 : Nat) : Int) = ((l.length : Nat) : Int)) : qt b (l.drop i) = some (b, l.length - (i + 1)) := by
 have he' : i + 1 = l.length := by omega
 rw [BG hc, he', List.drop_length, qt, if_pos h, Nat.sub_self]
theorem ZU {l b : List UInt8} {i : Nat} {c d : UInt8} (hc : l[i]? = some c) (hd : l[i + 1]? = some d) (h : (c.toNat : Int) = 39) (h2 : ¬ (d.toNat : Int) = 39) : qt b (l.drop i) = some (b, l.length - (i + 1)) := by
 have hlt := (List.getElem?_eq_some_iff.1 hd).1
 rw [BG hc, BG hd, qt, if_pos h, if_neg h2]
 congr 2
 rw [List.length_drop]; omega
def GU (l : List UInt8) (x : Lx) : Lx := match qt [] l.tail with
 | some (b, k) => if utf b = true then { x with nd := .lit ⟨3, 0, false, b⟩, at_ := x.at_ + (l.length - k) } else x.fail 4 x.at_
 | none => x.fail 4 x.at_
theorem VH {l b : List UInt8} {x : Lx} {i : Nat} (hi : i ≤ l.length) (h : qt [] l.tail = some (b, l.length - i)) (hu : utf b = true) : GU l x = { x with nd := .lit ⟨3, 0, false, b⟩, at_ := x.at_ + i } := by
 unfold GU
 rw [h]
 simp only [if_pos hu]
 congr 2; omega
theorem SK {l b : List UInt8} {x : Lx} {k : Nat} (h : qt [] l.tail = some (b, k)) (hu : utf b = false) : GU l x = x.fail 4 x.at_ := by
 unfold GU
 rw [h]
 simp [hu]
theorem fW {l : List UInt8} {x : Lx} (h : qt [] l.tail = none) : GU l x = x.fail 4 x.at_ := by
 unfold GU
 rw [h]
theorem RS {T e : TypeId} {B b : Nat} {bs : List Value} {W W' : World} (h : Lib.IsBuilderF T e B b bs W) (hb : Below W.heap.size W W') : Lib.IsBuilderF T e B b bs W' :=
 have one : ∀ {p : Value}, Lib.BuilderAtF T e B b p bs W → Lib.BuilderAtF T e B b p bs W' := fun h => by
  have hlt := h.lt
  obtain ⟨hB, v, hv, hown, hne⟩ := h
  exact ⟨hB, v, (hb.block b hlt).trans hv, hown.kept (row := none) ⟨hb.os, hb.tape, hb.output, hb.size, fun k hk _ => hb.block k hk⟩ (Classical.em _), hne⟩
 h.elim (fun x => .inl (one x)) (fun x => .inr (one x))
theorem dY {w : World} {B g : Nat} (hB : B ≤ g) (hb : Blk w g 196 [.pointer none, .slice none 0 0]) : Lib.IsBuilder 196 5 B g (bvs []) w :=
 .inl ⟨hB, .slice none 0 0, hb, ⟨rfl, .inl ⟨rfl, rfl⟩⟩, by simp [Value.ownBlock]⟩
theorem Mem.belowOld {w w1 w2 : World} {S : Nat → Prop} {g t : Nat} {cs : List Value} (M : Mem w S [As.blk g t cs] w1) (hg : g < w.heap.size) (hb : Below w.heap.size w1 w2) : Mem w S [As.blk g t cs] w2 where
 fr := ⟨hb.os.trans M.fr.os, hb.tape.trans M.fr.tape, hb.output.trans M.fr.output, Nat.le_trans M.fr.size hb.size, fun k hk hn => (hb.block k hk).trans (M.fr.block k hk hn)⟩
 ok i a hi := by
  cases i with
  | zero =>
   simp only [List.getElem?_cons_zero, Option.some.injEq] at hi; subst hi
   exact (hb.block g hg).trans (M.blk 0 rfl)
  | succ i => simp at hi
 lt i a hi k hk := by
  obtain ⟨h1, h2⟩ := M.lt i a hi k hk
  exact ⟨Nat.lt_of_lt_of_le h1 hb.size, h2⟩
 apart := M.apart
theorem JC (a0 : Int) (a1 : Int) : prog.built 67 [(0, .int .u8 a0), (1, .int .i64 a1)] = some #[.int .u8 a0, .int .i64 a1, .bool false, str []] := by kernel_rfl
theorem JB (a0 : Int) (a3 : List UInt8) : prog.built 67 [(0, .int .u8 a0), (3, str a3)] = some #[.int .u8 a0, .int .i64 0, .bool false, str a3] := by kernel_rfl
theorem LG : (prog.info? 196).map (·.zero) = some (some (.agg #[.pointer none, .slice none 0 0])) := by kernel_rfl
theorem iY (s : List UInt8) (x : Lx) (gx : Nat) (t : List UInt8) (w : World) (hb : Blk w gx 104 (Lx.cells s x)) (ht : 0 < t.length) (hl : t.length ≤ 281474976710656) (hY : Lay0 w) (hgx : nGlob ≤ gx) :
 Calls prog 106 #[pg gx, str t] w fun e w' => e = .returned (.tuple #[]) ∧ Blk w' gx 104 (Lx.cells s (GA t x)) ∧ Fr (fun k => k = gx) w w' := by
 have hGx : ∀ k, k = gx → nGlob ≤ k := fun _ e => e ▸ hgx
 refine AK (vs := [_, _]) func106 rfl ntmps106 rfl ?_
 have M : Mem w (fun k => k = gx) [As.blk gx 104 (Lx.cells s x)] w := Mem.one hb
 refine A4 (A4 (A0 (yb rfl ?_)))
 obtain ⟨c, hc⟩ := DY (l := t) (i := 0) (by omega)
 refine ya rfl (F5 rfl rfl rfl underlying9 hc) (ya rfl (B9 rfl rfl rfl) (yb rfl (AT 4 [(1, str t), (0, pg gx), (13, .bool ((decide ((c.toNat : Int) = (48 : Int))) && (decide ((1 : Int) < ((t.length : Nat) : Int)))))] (fun w' => Mem w (fun k => k = gx) [As.blk gx 104 (Lx.cells s x)] w') ?_ (fun k9 => ?_))))
 ·intro w1 M
  refine A1 (A2 (AQ (b := ((decide ((c.toNat : Int) = (48 : Int))) && (decide ((1 : Int) < ((t.length : Nat) : Int))))) rfl (fun h13 => ?_) (fun h13 => ?_)))
  ·have h13p := (And.intro (odt (C5 h13).1) (odt (C5 h13).2))
   refine A4 (A0 ?_)
   iterate 4 refine yb rfl ?_
   refine yl rfl rfl (M.cell 0 rfl rfl) (cl 19 rfl (AF rfl rfl call49) (EC s x _ _ _ _ (M.blk 0 rfl)) ?_)
   rintro _ w2 ⟨rfl, hbw2, hfw2⟩
   have M := M.putB 0 rfl hbw2 hfw2
   exact ⟨_, rfl, A1 (A2 (AD (AA (DC (Or.inl rfl) rfl ⟨rfl, by rw [GA, OO hc, if_pos h13p]; exact M.blk 0 rfl, M.fr⟩))))⟩
  ·have h13p := ((E9 h13).imp (fun z => (odf z)) (fun z => (odf z)))
   refine AL (A2 (A4 (A0 (yb rfl (cl 22 rfl (AF rfl rfl call140) (nB t _ (by omega) (hY.fr M.fr hGx).err) ?_)))))
   rintro _ w3 ⟨er, rfl, her, hfw3⟩
   refine ⟨_, rfl, ?_⟩
   have M := M.step hfw3
   iterate 5 refine yb rfl ?_
   refine A1 (A2 (A4 (A4 (A0 (yb rfl (ya rfl (fC rfl rfl her) (A1 (A2 (AQ (b := (!(MJ t).2)) rfl (fun h26 => ?_) (fun h26 => ?_))))))))))
   ·refine A0 ?_
    iterate 4 refine yb rfl ?_
    refine yl rfl rfl (M.cell 0 rfl rfl) (cl 32 rfl (AF rfl rfl call49) (EC s x _ _ _ _ (M.blk 0 rfl)) ?_)
    rintro _ w4 ⟨rfl, hbw4, hfw4⟩
    have M := M.putB 0 rfl hbw4 hfw4
    exact ⟨_, rfl, A1 (A2 (A0 (yb rfl (yb rfl (ya rfl (BO (parts := [(0, _), (1, _)]) rfl rfl (JC _ _)) (ya rfl (BO (parts := [(0, _), (1, _)]) rfl rfl (EE _ _ _ _ _)) (yb rfl (yb rfl (yb rfl (B5 (cs' := [str s, .int .i64 (((x.fail 91 x.at_).at_ : Nat) : Int), .int .u8 1, .int .u8 1, .int .i64 ((MJ t).1), .bool false, str [], str [], .slice none 0 0, str ((x.fail 91 x.at_).say), .int .i64 (((x.fail 91 x.at_).tat : Nat) : Int), .bool ((x.fail 91 x.at_).fin), .int .i64 ((x.fail 91 x.at_).e), .int .i64 (((x.fail 91 x.at_).wh : Nat) : Int)]) M 0 (A9 rfl) rfl rfl rfl rfl rfl AM rfl (AP rfl) (AW rfl) rfl fun w5 M => A1 (DC (Or.inr rfl) rfl ⟨rfl, by rw [GA, OO hc, if_neg (SS h13p), if_neg (BA (C1 h26))]; exact M.blk 0 rfl, M.fr⟩)))))))))))⟩
   ·exact AL (A2 (A0 (yb rfl (yb rfl (ya rfl (BO (parts := [(0, _), (1, _)]) rfl rfl (JC _ _)) (ya rfl (BO (parts := [(0, _), (1, _)]) rfl rfl (EE _ _ _ _ _)) (yb rfl (yb rfl (yb rfl (B5 (cs' := [str s, .int .i64 ((x.at_ : Nat) : Int), .int .u8 1, .int .u8 1, .int .i64 ((MJ t).1), .bool false, str [], str [], .slice none 0 0, str x.say, .int .i64 ((x.tat : Nat) : Int), .bool x.fin, .int .i64 x.e, .int .i64 ((x.wh : Nat) : Int)]) M 0 (A9 rfl) rfl rfl rfl rfl rfl AM rfl (AP rfl) (AW rfl) rfl fun w6 M => A1 (DC (Or.inr rfl) rfl ⟨rfl, by rw [GA, OO hc, if_neg (SS h13p), if_pos (C3 h26)]; exact M.blk 0 rfl, M.fr⟩)))))))))))
 refine AE (d := 9) (b := (decide ((c.toNat : Int) = (48 : Int)))) rfl (fun h9 => ?_) (fun h9 => ?_)
 ·exact yd rfl (yp rfl) (yd rfl (EO rfl rfl underlying9) (yd rfl (FR rfl rfl rfl) (yb rfl (k9 _ _ M ⟨rfl, rfl, (by rw [h9]; rfl), trivial⟩))))
 ·exact yo rfl (yo rfl (yo rfl (yb rfl (k9 _ _ M ⟨rfl, rfl, (by rw [h9]; rfl), trivial⟩))))
theorem dR (s : List UInt8) (x : Lx) (gx : Nat) (l : List UInt8) (w : World) (hb : Blk w gx 104 (Lx.cells s x)) (hn : 0 < l.length) (hl : l.length + x.at_ ≤ 70368744177664) (hY : Lay0 w) (hgx : nGlob ≤ gx) :
 Calls prog 110 #[.pointer (some ⟨gx, 0, none⟩), str l] w fun e w' => e = .returned (.tuple #[]) ∧ Blk w' gx 104 (Lx.cells s (GU l x)) ∧ Fr (fun k => k = gx) w w' := by
 have hGx : ∀ k, k = gx → nGlob ≤ k := fun _ e => e ▸ hgx
 have hlt : gx < w.heap.size := hb.lt
 refine AK (vs := [_, _]) func110 rfl ntmps110 rfl ?_
 have M : Mem w (fun k => k = gx) [As.blk gx 104 (Lx.cells s x)] w := Mem.one hb
 refine A4 (A0 (BI M (A9 rfl) rfl rfl 196 rfl [.pointer none, .slice none 0 0] LG rfl fun g4 w1 hg4 M => ?_))
 have hbu : Lib.IsBuilder 196 5 w.heap.size g4 (bvs []) w1 := dY (by have := M.fr.size; omega) (M.blk 0 rfl)
 have M := M.drop 1
 replace M : Mem w (fun k => k = gx) [As.blk gx 104 (Lx.cells s x)] w1 := M
 refine A1 (A2 (A4 (A4 (A0 (yb rfl (A1 (A2 (AV (CM (fun e wr mz => ∃ (i : Nat) (b : List UInt8), e = [(0, .pointer (some ⟨gx, 0, none⟩)), (1, str l), (4, .pointer (some ⟨g4, 0, none⟩)), (5, .int .i64 ((i : Nat) : Int))] ∧ Mem w (fun k => k = gx) [As.blk gx 104 (Lx.cells s x)] wr ∧ (1 ≤ i ∧ i ≤ l.length) ∧ (b.length ≤ i) ∧ (Lib.IsBuilder 196 5 w.heap.size g4 (bvs b) wr) ∧ (qt [] l.tail = qt b (l.drop i)) ∧ mz = l.length - i) ⟨1, [], rfl, M, ⟨Nat.le_refl _, by omega⟩, Nat.zero_le _, hbu, by rw [List.drop_one], rfl⟩ ⟨rfl, rfl, rfl, rfl, trivial⟩ ?_)))))))))
 rintro _ w2 _ ⟨i, b, rfl, M, hi, hbl, hbu, hq, rfl⟩
 refine A4 (A4 (A0 (yb rfl (yb rfl (ya rfl (EO rfl rfl underlying9) (ya rfl (CH rfl rfl rfl) (A1 (A2 (AQ (b := (decide (((i : Nat) : Int) < ((l.length : Nat) : Int)))) rfl (fun h9 => ?_) (fun h9 => ?_))))))))))
 ·have h9p := (odt h9)
  refine AL (A2 (A4 (AV (A4 (A4 (A0 (yb rfl (yb rfl ?_))))))))
  obtain ⟨c, hc⟩ := DY (l := l) (i := i) (by omega)
  refine ya rfl (F5 rfl rfl rfl underlying9 hc) (ya rfl (B9 rfl rfl rfl) (A1 (A2 (AQ (b := (decide ((c.toNat : Int) = (39 : Int)))) rfl (fun h15 => ?_) (fun h15 => ?_)))))
  ·have h15p := (odt h15)
   refine A4 (A0 (yb rfl (ya rfl (CQ rfl rfl rfl (by omega)) (yb rfl (A1 (A2 (A4 (A0 (yb rfl (yb rfl (ya rfl (EO rfl rfl underlying9) (ya rfl (B9 rfl rfl rfl) (yb rfl (AE (d := 22) (b := (decide (((i + 1 : Nat) : Int) = ((l.length : Nat) : Int)))) rfl (fun h22 => ?_) (fun h22 => ?_)))))))))))))))
   ·have h22p := (odt h22)
    iterate 4 refine yo rfl ?_
    refine yb rfl (A1 (A2 (DQ rfl (A4 (A4 (A0 ?_))))))
    have hbf := Lib.IsBuilderF.of hbu
    refine cl 28 rfl (AF rfl rfl call142) (Tryz.Builder_String_any_f w.heap.size g4 b _ hbf M.fr.size) ?_
    rintro _ w3 ⟨rfl, hbf, hBw3⟩
    refine ⟨_, rfl, ?_⟩
    have M := M.belowOld hlt hBw3
    refine cl 29 rfl (AF rfl rfl call117) (JG _ _ (by omega) (hY.fr M.fr hGx).utf) ?_
    rintro _ w4 ⟨rfl, hfw4⟩
    refine ⟨_, rfl, ?_⟩
    have M := M.step hfw4
    have hbf := RS hbf hfw4.below
    refine yb rfl (A1 (A2 (AQ (b := (!(utf b))) rfl (fun h30 => ?_) (fun h30 => ?_))))
    ·have h30p := (C1 h30)
     refine CD (AI (AI (IW rfl (AI (AI (BB (A2 (A0 ?_))))))))
     iterate 4 refine yb rfl ?_
     refine yl rfl rfl (M.cell 0 rfl rfl) (cl 55 rfl (AF rfl rfl call49) (EC s x _ _ _ _ (M.blk 0 rfl)) ?_)
     rintro _ w5 ⟨rfl, hbw5, hfw5⟩
     have M := M.putB 0 rfl hbw5 hfw5
     exact ⟨_, rfl, A1 (DC (Or.inr rfl) rfl ⟨rfl, by rw [SK (hq.trans (hZ hc h15p h22p)) h30p]; exact M.blk 0 rfl, M.fr⟩)⟩
    ·have h30p := (C3 h30)
     refine AL (A2 (A4 (A0 (yb rfl (cl 32 rfl (AF rfl rfl call142) (Tryz.Builder_String_any_f w.heap.size g4 b _ hbf M.fr.size) ?_)))))
     rintro _ w6 ⟨rfl, hbf, hBw6⟩
     refine ⟨_, rfl, ?_⟩
     have M := M.belowOld hlt hBw6
     refine ya rfl (BO (parts := [(0, _), (3, _)]) rfl rfl (JB _ _)) (ya rfl (BO (parts := [(0, _), (1, _)]) rfl rfl (EE _ _ _ _ _)) (yb rfl (yb rfl (yb rfl (B5 (cs' := [str s, .int .i64 ((x.at_ : Nat) : Int), .int .u8 1, .int .u8 3, .int .i64 0, .bool false, str b, str [], .slice none 0 0, str x.say, .int .i64 ((x.tat : Nat) : Int), .bool x.fin, .int .i64 x.e, .int .i64 ((x.wh : Nat) : Int)]) M 0 (A9 rfl) rfl rfl rfl rfl rfl AM rfl (AP rfl) (AW rfl) rfl fun w7 M => A1 (A2 (A4 (A0 (yb rfl (yb rfl (yb rfl (yl rfl rfl (M.cell 0 rfl rfl) (yb rfl ?_)))))))))))))
     exact ya rfl (CQ rfl rfl rfl (by omega)) (yb rfl (yb rfl (BQ (cs' := [str s, .int .i64 ((x.at_ + (i + 1) : Nat) : Int), .int .u8 1, .int .u8 3, .int .i64 0, .bool false, str b, str [], .slice none 0 0, str x.say, .int .i64 ((x.tat : Nat) : Int), .bool x.fin, .int .i64 x.e, .int .i64 ((x.wh : Nat) : Int)]) M 0 (A9 rfl) rfl rfl rfl rfl rfl rfl rfl FT (AZ rfl) rfl fun w8 M => A1 (A2 (AD (AA (AJ (AA (AA (AJ (AA (DC (Or.inl rfl) rfl ⟨rfl, by rw [VH (i := i + 1) (by omega) (hq.trans (hZ hc h15p h22p)) h30p]; exact M.blk 0 rfl, M.fr⟩))))))))))))
   ·have h22p := (odf h22)
    refine yd rfl (yp rfl) (yd rfl (yp rfl) ?_)
    obtain ⟨d, hd⟩ := DY (l := l) (i := i + 1) (by omega)
    refine yd rfl (F5 rfl rfl rfl underlying9 hd) (yd rfl (CX rfl rfl rfl) (yb rfl (A1 (A2 (AQ (b := (!decide ((d.toNat : Int) = (39 : Int)))) rfl (fun h27 => ?_) (fun h27 => ?_))))))
    ·have h27p := (odf (C1 h27))
     refine A4 (A4 (A0 ?_))
     have hbf := Lib.IsBuilderF.of hbu
     refine cl 28 rfl (AF rfl rfl call142) (Tryz.Builder_String_any_f w.heap.size g4 b _ hbf M.fr.size) ?_
     rintro _ w9 ⟨rfl, hbf, hBw9⟩
     refine ⟨_, rfl, ?_⟩
     have M := M.belowOld hlt hBw9
     refine cl 29 rfl (AF rfl rfl call117) (JG _ _ (by omega) (hY.fr M.fr hGx).utf) ?_
     rintro _ w10 ⟨rfl, hfw10⟩
     refine ⟨_, rfl, ?_⟩
     have M := M.step hfw10
     have hbf := RS hbf hfw10.below
     refine yb rfl (A1 (A2 (AQ (b := (!(utf b))) rfl (fun h30 => ?_) (fun h30 => ?_))))
     ·have h30p := (C1 h30)
      refine CD (AI (AI (IW rfl (AI (AI (BB (A2 (A0 ?_))))))))
      iterate 4 refine yb rfl ?_
      refine yl rfl rfl (M.cell 0 rfl rfl) (cl 55 rfl (AF rfl rfl call49) (EC s x _ _ _ _ (M.blk 0 rfl)) ?_)
      rintro _ w11 ⟨rfl, hbw11, hfw11⟩
      have M := M.putB 0 rfl hbw11 hfw11
      exact ⟨_, rfl, A1 (DC (Or.inr rfl) rfl ⟨rfl, by rw [SK (hq.trans (ZU hc hd h15p h27p)) h30p]; exact M.blk 0 rfl, M.fr⟩)⟩
     ·have h30p := (C3 h30)
      refine AL (A2 (A4 (A0 (yb rfl (cl 32 rfl (AF rfl rfl call142) (Tryz.Builder_String_any_f w.heap.size g4 b _ hbf M.fr.size) ?_)))))
      rintro _ w12 ⟨rfl, hbf, hBw12⟩
      refine ⟨_, rfl, ?_⟩
      have M := M.belowOld hlt hBw12
      refine ya rfl (BO (parts := [(0, _), (3, _)]) rfl rfl (JB _ _)) (ya rfl (BO (parts := [(0, _), (1, _)]) rfl rfl (EE _ _ _ _ _)) (yb rfl (yb rfl (yb rfl (B5 (cs' := [str s, .int .i64 ((x.at_ : Nat) : Int), .int .u8 1, .int .u8 3, .int .i64 0, .bool false, str b, str [], .slice none 0 0, str x.say, .int .i64 ((x.tat : Nat) : Int), .bool x.fin, .int .i64 x.e, .int .i64 ((x.wh : Nat) : Int)]) M 0 (A9 rfl) rfl rfl rfl rfl rfl AM rfl (AP rfl) (AW rfl) rfl fun w13 M => A1 (A2 (A4 (A0 (yb rfl (yb rfl (yb rfl (yl rfl rfl (M.cell 0 rfl rfl) (yb rfl ?_)))))))))))))
      exact ya rfl (CQ rfl rfl rfl (by omega)) (yb rfl (yb rfl (BQ (cs' := [str s, .int .i64 ((x.at_ + (i + 1) : Nat) : Int), .int .u8 1, .int .u8 3, .int .i64 0, .bool false, str b, str [], .slice none 0 0, str x.say, .int .i64 ((x.tat : Nat) : Int), .bool x.fin, .int .i64 x.e, .int .i64 ((x.wh : Nat) : Int)]) M 0 (A9 rfl) rfl rfl rfl rfl rfl rfl rfl FT (AZ rfl) rfl fun w14 M => A1 (A2 (AD (AA (AJ (AA (AA (AJ (AA (DC (Or.inl rfl) rfl ⟨rfl, by rw [VH (i := i + 1) (by omega) (hq.trans (ZU hc hd h15p h27p)) h30p]; exact M.blk 0 rfl, M.fr⟩))))))))))))
    ·have h27p := (odt (C3 h27))
     refine AL (A2 (A0 (yb rfl (yb rfl (ya rfl (F5 rfl rfl rfl underlying9 hd) (cl 49 rfl (AF rfl rfl call143) (M0 w.heap.size g4 b d _ hbu (by omega) M.fr.size) ?_))))))
     rintro _ w15 ⟨rfl, hbu, hBw15⟩
     refine ⟨_, rfl, ?_⟩
     have M := M.belowOld hlt hBw15
     refine A1 (AC (A2 (A0 (yb rfl (ya rfl (CQ rfl rfl rfl (by omega)) (yb rfl (A1 (BM [(0, .pointer (some ⟨gx, 0, none⟩)), (1, str l), (4, .pointer (some ⟨g4, 0, none⟩)), (5, .int .i64 (((i + 2) : Nat) : Int))] (l.length - (i + 2)) ⟨i + 2, (b ++ [d]), rfl, M, ?_, ?_, ?_, ?_, rfl⟩ (by first | omega | (simp <;> omega)) ⟨rfl, rfl, rfl, rfl, trivial⟩))))))))
     ·omega
     ·simp only [List.length_append, List.length_cons, List.length_nil]; omega
     ·exact hbu
     ·first
       | (rw [hq, hH hc hd h15p h27p])
       | (rw [hq, hX hc h15p])
  ·have h15p := (odf h15)
   refine AL (A2 (A0 (yb rfl (yb rfl (ya rfl (F5 rfl rfl rfl underlying9 hc) (cl 49 rfl (AF rfl rfl call143) (M0 w.heap.size g4 b c _ hbu (by omega) M.fr.size) ?_))))))
   rintro _ w16 ⟨rfl, hbu, hBw16⟩
   refine ⟨_, rfl, ?_⟩
   have M := M.belowOld hlt hBw16
   refine A1 (AC (A2 (A0 (yb rfl (ya rfl (CQ rfl rfl rfl (by omega)) (yb rfl (A1 (BM [(0, .pointer (some ⟨gx, 0, none⟩)), (1, str l), (4, .pointer (some ⟨g4, 0, none⟩)), (5, .int .i64 (((i + 1) : Nat) : Int))] (l.length - (i + 1)) ⟨i + 1, (b ++ [c]), rfl, M, ?_, ?_, ?_, ?_, rfl⟩ (by first | omega | (simp <;> omega)) ⟨rfl, rfl, rfl, rfl, trivial⟩))))))))
   ·omega
   ·simp only [List.length_append, List.length_cons, List.length_nil]; omega
   ·exact hbu
   ·first
     | (rw [hq, hH hc hd h15p h27p])
     | (rw [hq, hX hc h15p])
 ·have h9p := (odf h9)
  refine CD (AI (AI (BB (A2 (A0 ?_)))))
  iterate 4 refine yb rfl ?_
  refine yl rfl rfl (M.cell 0 rfl rfl) (cl 55 rfl (AF rfl rfl call49) (EC s x _ _ _ _ (M.blk 0 rfl)) ?_)
  rintro _ w17 ⟨rfl, hbw17, hfw17⟩
  have M := M.putB 0 rfl hbw17 hfw17
  refine ⟨_, rfl, A1 (DC (Or.inr rfl) rfl ?_)⟩
  obtain rfl : i = l.length := by omega
  exact ⟨rfl, by rw [fW (hq.trans (by rw [List.drop_length]; cases b <;> rfl))]; exact M.blk 0 rfl, M.fr⟩
end Go.Proofs.YtadgfojhjnkliaaGreatDoor
