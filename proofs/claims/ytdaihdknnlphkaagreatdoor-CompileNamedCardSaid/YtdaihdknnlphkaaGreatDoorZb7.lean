/- Lemmas that the last text rests on. Condition: each says its own. -/
import Derived.Test.YtdaihdknnlphkaaGreatDoorZb6
import Derived.Lib.Builder
import Derived.Laws.Externs
import Derived.Shelf.Strings.BuilderF
import Derived.Shelf.Strings.Trim
import Derived.Shelf.Strings.FuncGrows
import Derived.Shelf.Strconv.ParseIntPublic10
set_option maxHeartbeats 16000000
set_option maxRecDepth 100000
namespace Go.Proofs.YtdaihdknnlphkaaGreatDoor
open Go.RowKit
section
inductive Xn
 | zero
 | lit (v : Vl)
 | var (s : List UInt8)
 | un (op : UInt8) (a : Xn)
 | bin (op : UInt8) (a b : Xn)
def Xn.op : Xn → UInt8
 | .zero => 0
 | .lit _ => 1
 | .var _ => 2
 | .un o _ => o
 | .bin o _ _ => o
def Xn.vl : Xn → Vl
 | .lit v => v
 | _ => zeroVl
def Xn.nm : Xn → List UInt8
 | .var s => s
 | _ => []
def Xn.nk : Xn → Nat
 | .un _ _ => 1
 | .bin _ _ _ => 2
 | _ => 0
def Xn.cells (n : Xn) (A : Option Addr) : List Value := [.int .u8 (n.op.toNat : Int), .int .u8 (n.vl.kind.toNat : Int), .int .i64 n.vl.int, .bool n.vl.bool, str n.vl.text, str n.nm, .slice A n.nk n.nk]
def Xn.leaf : Xn → Bool
 | .un _ _ => false
 | .bin _ _ _ => false
 | _ => true
theorem Xn.nk_leaf {n : Xn} (h : n.leaf = true) : n.nk = 0 := by cases n <;> first | rfl | cases h
def CD (b : UInt8) : Bool := decide ((48 : Int) ≤ (b.toNat : Int)) && decide ((b.toNat : Int) ≤ 57)
def DP (b : UInt8) : Bool := decide ((97 : Int) ≤ ((b ||| 32).toNat : Int)) && decide (((b ||| 32).toNat : Int) ≤ 122)
def CT (b : UInt8) : Bool := DP b || CD b || decide ((b.toNat : Int) = 45) || decide ((b.toNat : Int) = 95) || decide ((b.toNat : Int) = 46)
def signTab : List (List UInt8 × (UInt8 × Nat)) := [([111, 114], (6, 1)), ([97, 110, 100], (5, 2)), ([61], (7, 4)), ([33, 61], (8, 4)), ([60], (9, 4)), ([60, 61], (10, 4)), ([62], (11, 4)), ([62, 61], (12, 4)), ([43], (13, 5)), ([45], (14, 5)), ([42], (15, 6)), ([47], (16, 6)), ([37], (17, 6))]
def XN : List (List UInt8 × (UInt8 × Nat)) → List UInt8 → Option (UInt8 × Nat)
 | [], _ => none
 | (k', v) :: r, k => if k = k' then some v else XN r k
def AH (s : List UInt8) : Option (UInt8 × Nat) := XN signTab s
def HV (s : List UInt8) : Bool := decide (s = [97, 110, 100]) || decide (s = [111, 114]) || decide (s = [110, 111, 116]) || decide (s = [116, 114, 117, 101]) || decide (s = [102, 97, 108, 115, 101])
structure Lx where
 at_ : Nat
 nd : Xn
 say : List UInt8
 tat : Nat
 fin : Bool
 e : Int
 wh : Nat
def Lx.cells (s : List UInt8) (x : Lx) : List Value := [str s, .int .i64 (x.at_ : Int), .int .u8 (x.nd.op.toNat : Int), .int .u8 (x.nd.vl.kind.toNat : Int), .int .i64 x.nd.vl.int, .bool x.nd.vl.bool, str x.nd.vl.text, str x.nd.nm, .slice none 0 0, str x.say, .int .i64 (x.tat : Int), .bool x.fin, .int .i64 x.e, .int .i64 (x.wh : Int)]
def Lx.fail (x : Lx) (e : Int) (p : Nat) : Lx := if x.e = 0 then { x with e := e, wh := p } else x
def N7 (l : List UInt8) : List UInt8 := l.dropWhile (fun b => b == 32)
section
variable (s : List UInt8) (fr : Nat → Lx → Xn × Lx)
end
def lx0 : Lx := ⟨0, .zero, [], 0, false, 0, 0⟩
end
open Tryz
def lQ (p : UInt8 × Nat) : Value := .agg #[.int .u8 (p.1.toNat : Int), .int .i64 (p.2 : Int)]
def D2 : List (List UInt8 × Value) := signTab.map fun p => (p.1, lQ p.2)
theorem OP (k : List UInt8) : ∀ l : List (List UInt8 × (UInt8 × Nat)), D5 (l.map fun p => (p.1, lQ p.2)) k = (XN l k).map lQ
 | [] => rfl
 | (k', v) :: r => by
  rw [List.map_cons, D5, XN]
  by_cases h : k = k'
  ·rw [if_pos h, if_pos h]; rfl
  ·rw [if_neg h, if_neg h]; exact OP k r
theorem DY (k : List UInt8) : (D5 D2 k).getD (.agg #[.int .u8 0, .int .i64 0]) = .agg #[.int .u8 (((AH k).getD (0, 0)).1.toNat : Int), .int .i64 ((((AH k).getD (0, 0)).2 : Nat) : Int)] := by
 unfold D2 AH
 rw [OP]
 cases XN signTab k <;> rfl
theorem GE (k : List UInt8) : (D5 D2 k).isSome = (AH k).isSome := by
 unfold D2 AH
 rw [OP]
 cases XN signTab k <;> rfl
theorem nE (v : List UInt8) : ([[97, 110, 100], [111, 114], [110, 111, 116], [116, 114, 117, 101], [102, 97, 108, 115, 101]].any (fun z => decide (v = z))) = HV v := by
 simp only [List.any_cons, List.any_nil, HV, Bool.or_false, Bool.or_assoc]
theorem PL (a0 : Int) (a2 : Bool) : prog.built 95 [(0, .int .u8 a0), (2, .bool a2)] = some #[.int .u8 a0, .int .i64 0, .bool a2, str []] := by kernel_rfl
theorem EE (a0 : Int) (c1_0 c1_1 c1_2 c1_3 : Value) : prog.built 129 [(0, .int .u8 a0), (1, .agg #[c1_0, c1_1, c1_2, c1_3])] = some #[.int .u8 a0, c1_0, c1_1, c1_2, c1_3, str [], .slice none 0 0] := by kernel_rfl
theorem PK (a0 : Int) (a2 : List UInt8) : prog.built 129 [(0, .int .u8 a0), (2, str a2)] = some #[.int .u8 a0, .int .u8 0, .int .i64 0, .bool false, str [], str a2, .slice none 0 0] := by kernel_rfl
theorem C1 (a0 : Int) (a1 : Int) : prog.built 148 [(0, .int .u8 a0), (1, .int .i64 a1)] = some #[.int .u8 a0, .int .i64 a1] := by kernel_rfl
theorem VW : (prog.info? 33).map (·.size) = some 1 := by kernel_rfl
theorem IG : (prog.info? 181).map (·.size) = some 1 := by kernel_rfl
theorem sz_string : (prog.info? 9).map (·.size) = some 1 := by kernel_rfl
theorem EC (s : List UInt8) (x : Lx) (gx : Nat) (er : Int) (p : Nat) (w : World) (hb : Blk w gx 142 (Lx.cells s x)) :
 Calls prog 125 #[pg gx, .int .i64 er, .int .i64 (p : Int)] w fun e w' => e = .returned (.tuple #[]) ∧ Blk w' gx 142 (Lx.cells s (x.fail er p)) ∧ Fr (fun k => k = gx) w w' := by
 refine AJ (vs := [_, _, _]) func125 rfl ntmps125 rfl ?_
 have M : Mem w (fun k => k = gx) [As.blk gx 142 (Lx.cells s x)] w := Mem.one hb
 refine A9 (A0 (yb rfl (yb rfl (yb rfl (yl rfl rfl (M.cell 0 rfl rfl) (ya rfl (BB rfl rfl rfl) (A4 (A5 (AT (b := (decide (x.e = (0 : Int)))) rfl (fun h10 => ?_) (fun h10 => ?_))))))))))
 ·have h10p := (odt h10)
  refine A0 ?_
  iterate 6 refine yb rfl ?_
  exact BP (cs' := [str s, .int .i64 ((x.at_ : Nat) : Int), .int .u8 (x.nd.op.toNat : Int), .int .u8 (x.nd.vl.kind.toNat : Int), .int .i64 x.nd.vl.int, .bool x.nd.vl.bool, str x.nd.vl.text, str x.nd.nm, .slice none 0 0, str x.say, .int .i64 ((x.tat : Nat) : Int), .bool x.fin, .int .i64 er, .int .i64 ((x.wh : Nat) : Int)]) M 0 (AA rfl) rfl rfl rfl rfl rfl rfl rfl VW (AZ rfl) rfl fun w1 M => yb rfl (yb rfl (BP (cs' := [str s, .int .i64 ((x.at_ : Nat) : Int), .int .u8 (x.nd.op.toNat : Int), .int .u8 (x.nd.vl.kind.toNat : Int), .int .i64 x.nd.vl.int, .bool x.nd.vl.bool, str x.nd.vl.text, str x.nd.nm, .slice none 0 0, str x.say, .int .i64 ((x.tat : Nat) : Int), .bool x.fin, .int .i64 er, .int .i64 ((p : Nat) : Int)]) M 0 (AA rfl) rfl rfl rfl rfl rfl rfl rfl IG (AZ rfl) rfl fun w2 M => A4 (C3 (Or.inr rfl) rfl ⟨rfl, by rw [Lx.fail, if_pos h10p]; exact M.blk 0 rfl, M.fr⟩)))
 ·have h10p := (odf h10)
  exact AN (C3 (Or.inr rfl) rfl ⟨rfl, by rw [Lx.fail, if_neg h10p]; exact M.blk 0 rfl, M.fr⟩)
theorem T6 (b : UInt8) (w : World) : Calls prog 145 #[.int .u8 (b.toNat : Int)] w fun e w' => e = .returned (.bool (CD b)) ∧ Fr0 w w' := by
 refine AJ (vs := [_]) func145 rfl ntmps145 rfl ?_
 have M := CN w
 refine A9 (A0 (yb rfl (A4 (A5 (A9 (A0 (yb rfl (ya rfl (FG rfl rfl rfl) (yb rfl (AX 3 [(2, .bool false), (8, .bool ((decide ((48 : Int) ≤ (b.toNat : Int))) && (decide ((b.toNat : Int) ≤ (57 : Int)))))] (fun w' => Mem w AD [] w') ?_ (fun k5 => ?_)))))))))))
 ·intro w1 M
  exact yb rfl (A4 (A5 (AF (AK rfl rfl ⟨rfl, M.fr⟩))))
 refine AM (d := 5) (b := (decide ((48 : Int) ≤ (b.toNat : Int)))) rfl (fun h5 => ?_) (fun h5 => ?_)
 ·exact yd rfl (yp rfl) (yd rfl (K5 rfl rfl rfl) (yb rfl (k5 _ _ M ⟨rfl, (by rw [h5]; rfl), trivial⟩)))
 ·exact yo rfl (yo rfl (yb rfl (k5 _ _ M ⟨rfl, (by rw [h5]; rfl), trivial⟩)))
theorem UV (b : UInt8) (w : World) : Calls prog 148 #[.int .u8 (b.toNat : Int)] w fun e w' => e = .returned (.bool (DP b)) ∧ Fr0 w w' := by
 refine AJ (vs := [_]) func148 rfl ntmps148 rfl ?_
 have M := CN w
 refine A9 (A0 (yb rfl (A4 (A5 (A9 (A0 (yb rfl (ya rfl (u6 (b := b) (c := 32) rfl rfl rfl) (ya rfl (FG rfl rfl rfl) (yb rfl (AX 4 [(2, .bool false), (10, .bool ((decide ((97 : Int) ≤ ((b ||| 32).toNat : Int))) && (decide (((b ||| 32).toNat : Int) ≤ (122 : Int)))))] (fun w' => Mem w AD [] w') ?_ (fun k6 => ?_))))))))))))
 ·intro w1 M
  exact yb rfl (A4 (A5 (AF (AK rfl rfl ⟨rfl, M.fr⟩))))
 refine AM (d := 6) (b := (decide ((97 : Int) ≤ ((b ||| 32).toNat : Int)))) rfl (fun h6 => ?_) (fun h6 => ?_)
 ·exact yd rfl (yp rfl) (yd rfl (u6 (b := b) (c := 32) rfl rfl rfl) (yd rfl (K5 rfl rfl rfl) (yb rfl (k6 _ _ M ⟨rfl, (by rw [h6]; rfl), trivial⟩))))
 ·exact yo rfl (yo rfl (yo rfl (yb rfl (k6 _ _ M ⟨rfl, (by rw [h6]; rfl), trivial⟩))))
theorem j5 (b : UInt8) (w : World) : Calls prog 149 #[.int .u8 (b.toNat : Int)] w fun e w' => e = .returned (.bool (CT b)) ∧ Fr0 w w' := by
 refine AJ (vs := [_]) func149 rfl ntmps149 rfl ?_
 have M := CN w
 refine A9 (A0 (yb rfl (A4 (A5 (A9 (A0 (yb rfl (cp M 4 rfl (AE rfl rfl call148) (UV _ _) fun w1 M => yb rfl (AX 3 [(0, .int .u8 (b.toNat : Int)), (2, .bool false), (8, .bool ((DP b) || (CD b)))] (fun w' => Mem w AD [] w') ?_ (fun k5 => ?_))))))))))
 ·intro w2 M
  refine yb rfl (AX 3 [(0, .int .u8 (b.toNat : Int)), (2, .bool false), (12, .bool (((DP b) || (CD b)) || (decide ((b.toNat : Int) = (45 : Int)))))] (fun w' => Mem w AD [] w') ?_ (fun k9 => ?_))
  ·intro w3 M
   refine yb rfl (AX 3 [(0, .int .u8 (b.toNat : Int)), (2, .bool false), (16, .bool ((((DP b) || (CD b)) || (decide ((b.toNat : Int) = (45 : Int)))) || (decide ((b.toNat : Int) = (95 : Int)))))] (fun w' => Mem w AD [] w') ?_ (fun k13 => ?_))
   ·intro w4 M
    refine yb rfl (AX 3 [(2, .bool false), (20, .bool (((((DP b) || (CD b)) || (decide ((b.toNat : Int) = (45 : Int)))) || (decide ((b.toNat : Int) = (95 : Int)))) || (decide ((b.toNat : Int) = (46 : Int)))))] (fun w' => Mem w AD [] w') ?_ (fun k17 => ?_))
    ·intro w5 M
     exact yb rfl (A4 (A5 (AF (AK rfl rfl ⟨rfl, M.fr⟩))))
    refine AM (d := 17) (b := ((((DP b) || (CD b)) || (decide ((b.toNat : Int) = (45 : Int)))) || (decide ((b.toNat : Int) = (95 : Int))))) rfl (fun h17 => ?_) (fun h17 => ?_)
    ·exact yo rfl (yo rfl (yb rfl (k17 _ _ M ⟨rfl, (by rw [h17]; rfl), trivial⟩)))
    ·exact yd rfl (yp rfl) (yd rfl (BB rfl rfl rfl) (yb rfl (k17 _ _ M ⟨rfl, (by rw [h17]; rfl), trivial⟩)))
   refine AM (d := 13) (b := (((DP b) || (CD b)) || (decide ((b.toNat : Int) = (45 : Int))))) rfl (fun h13 => ?_) (fun h13 => ?_)
   ·exact yo rfl (yo rfl (yb rfl (k13 _ _ M ⟨rfl, rfl, (by rw [h13]; rfl), trivial⟩)))
   ·exact yd rfl (yp rfl) (yd rfl (BB rfl rfl rfl) (yb rfl (k13 _ _ M ⟨rfl, rfl, (by rw [h13]; rfl), trivial⟩)))
  refine AM (d := 9) (b := ((DP b) || (CD b))) rfl (fun h9 => ?_) (fun h9 => ?_)
  ·exact yo rfl (yo rfl (yb rfl (k9 _ _ M ⟨rfl, rfl, (by rw [h9]; rfl), trivial⟩)))
  ·exact yd rfl (yp rfl) (yd rfl (BB rfl rfl rfl) (yb rfl (k9 _ _ M ⟨rfl, rfl, (by rw [h9]; rfl), trivial⟩)))
 refine AM (d := 5) (b := (DP b)) rfl (fun h5 => ?_) (fun h5 => ?_)
 ·exact yo rfl (yo rfl (yb rfl (k5 _ _ M ⟨rfl, rfl, (by rw [h5]; rfl), trivial⟩)))
 ·refine yd rfl (yp rfl) (CF (some 7) (AW rfl rfl rfl) rfl rfl (AE rfl rfl call145) (T6 _ _) ?_)
  rintro _ w6 ⟨rfl, hfw6⟩
  refine ⟨_, rfl, ?_⟩
  have M := M.step hfw6
  exact yb rfl (k5 _ _ M ⟨rfl, rfl, (by rw [h5]; rfl), trivial⟩)
theorem sT (A : Option Addr) (c : Nat) (l : List (List UInt8)) (v : List UInt8) (w : World) (hl : l.length ≤ 4611686018427387904) (hR : Rd w A (l.length * 1) (AS D7 l)) :
 Calls prog 117 #[.slice A l.length c, str v] w fun e w' => e = .returned (.int .i64 (ixJ (fun _ z => decide (v = z)) 0 l)) ∧ Fr0 w w' := by
 refine AJ (vs := [_, _]) func117 rfl ntmps117 rfl ?_
 have M := CN w
 refine A9 (A0 (yb rfl (A4 (A5 (A9 (A9 (A0 (yb rfl (ya rfl (CS rfl rfl (sl rfl)) (yb rfl (A4 (A5 (AV (CL (fun e wr mz => ∃ (i : Nat), e = [(0, .slice A l.length c), (1, str v), (7, .int .i64 ((l.length : Nat) : Int)), (8, .int .i64 ((i : Nat) : Int))] ∧ Mem w AD [] wr ∧ (i ≤ l.length) ∧ (ixJ (fun _ z => decide (v = z)) 0 l = ixJ (fun _ z => decide (v = z)) i (l.drop i)) ∧ mz = l.length - i) ⟨0, rfl, M, Nat.zero_le _, rfl, rfl⟩ ⟨rfl, rfl, rfl, rfl, trivial⟩ ?_))))))))))))))
 rintro _ w1 _ ⟨i, rfl, M, hi, hr, rfl⟩
 refine A9 (A0 (ya rfl (CB rfl rfl rfl) (A4 (A5 (A9 (AT (b := (decide (((i : Nat) : Int) < ((l.length : Nat) : Int)))) rfl (fun h9 => ?_) (fun h9 => ?_)))))))
 ·have h9p := (odt h9)
  refine AN (A5 (A9 (AV (A9 (A0 (yb rfl (yb rfl (A4 (A5 (A9 (A0 (yb rfl (yb rfl (yb rfl ?_))))))))))))))
  obtain ⟨x, hx⟩ := DA (l := l) (i := i) (by omega)
  obtain ⟨b_x, o_x, hA_x⟩ := C7 (k := 1) (by omega) (hR.fr0 M.fr) hx
  refine ya rfl (BM i hA_x rfl rfl rfl (sl rfl) (by omega)) (yl rfl rfl (EB GD (hR.fr0 M.fr) hA_x hx 0 rfl) (ya rfl (DE rfl rfl rfl) (A4 (A5 (AT (b := (decide (v = x))) rfl (fun h16 => ?_) (fun h16 => ?_))))))
  ·have h16p := (odt h16)
   exact A9 (A0 (yb rfl (yb rfl (A4 (A5 (AF (AL (AB (AB (AL (AB (AK rfl rfl ⟨by rw [hr, BH hx, ixJ, if_pos h16], M.fr⟩))))))))))))
  ·have h16p := (odf h16)
   refine AN (AC (A5 (A0 (ya rfl (CI rfl rfl rfl (by omega)) (yb rfl (A4 (BF [(0, .slice A l.length c), (1, str v), (7, .int .i64 ((l.length : Nat) : Int)), (8, .int .i64 (((i + 1) : Nat) : Int))] (l.length - (i + 1)) ⟨i + 1, rfl, M, ?_, ?_, rfl⟩ (by first | omega | (simp <;> omega)) ⟨rfl, rfl, rfl, rfl, trivial⟩)))))))
   ·omega
   ·rw [hr, BH hx, ixJ, if_neg (BE h16)]
 ·have h9p := (odf h9)
  refine C2 (AG (AG (B5 (A5 (A9 (A0 (yb rfl (A4 (A5 (AF (AK rfl rfl ?_)))))))))))
  obtain rfl : i = l.length := by omega
  exact ⟨by rw [hr, List.drop_length]; rfl, M.fr⟩
theorem O9 (A : Option Addr) (c : Nat) (l : List (List UInt8)) (v : List UInt8) (w : World) (hl : l.length ≤ 4611686018427387904) (hR : Rd w A (l.length * 1) (AS D7 l)) :
 Calls prog 85 #[.slice A l.length c, str v] w fun e w' => e = .returned (.bool (l.any (fun z => decide (v = z)))) ∧ Fr0 w w' := by
 refine AJ (vs := [_, _]) func85 rfl ntmps85 rfl ?_
 have M := CN w
 refine A9 (A0 (yb rfl (A4 (A5 (A9 (A0 (yb rfl (yb rfl (cp M 7 rfl (AE rfl rfl call117) (sT _ _ l _ _ (by first | omega | decide) (hR.fr0 M.fr)) fun w1 M => ya rfl (FG rfl rfl rfl) (yb rfl (A4 (A5 (AF (AK rfl rfl ?_))))))))))))))
 exact ⟨by rw [KI], M.fr⟩
theorem HJ (w : World) :
 Calls prog 129 #[] w fun e w' => ∃ g, e = .returned (.map (some g)) ∧ Mp w' g D2 ∧ w.heap.size ≤ g ∧ Fr0 w w' := by
 refine AJ (vs := []) func129 rfl ntmps129 rfl ?_
 have M := CN w
 refine A9 (A0 (yb rfl (A4 (A5 (A9 (A0 (J3 M (AA rfl) rfl rfl rfl fun g1 w1 hg1 M => ya rfl (BU (parts := [(0, _), (1, _)]) rfl rfl (C1 _ _)) (DF M 0 (AA rfl) rfl rfl rfl rfl rfl underlying150 underlying9 rfl fun w2 M => ya rfl (BU (parts := [(0, _), (1, _)]) rfl rfl (C1 _ _)) (DF M 0 (AA rfl) rfl rfl rfl rfl rfl underlying150 underlying9 rfl fun w3 M => ya rfl (BU (parts := [(0, _), (1, _)]) rfl rfl (C1 _ _)) ?_)))))))))
 refine DF M 0 (AA rfl) rfl rfl rfl rfl rfl underlying150 underlying9 rfl fun w4 M => ya rfl (BU (parts := [(0, _), (1, _)]) rfl rfl (C1 _ _)) (DF M 0 (AA rfl) rfl rfl rfl rfl rfl underlying150 underlying9 rfl fun w5 M => ya rfl (BU (parts := [(0, _), (1, _)]) rfl rfl (C1 _ _)) (DF M 0 (AA rfl) rfl rfl rfl rfl rfl underlying150 underlying9 rfl fun w6 M => ya rfl (BU (parts := [(0, _), (1, _)]) rfl rfl (C1 _ _)) (DF M 0 (AA rfl) rfl rfl rfl rfl rfl underlying150 underlying9 rfl fun w7 M => ya rfl (BU (parts := [(0, _), (1, _)]) rfl rfl (C1 _ _)) (DF M 0 (AA rfl) rfl rfl rfl rfl rfl underlying150 underlying9 rfl fun w8 M => ya rfl (BU (parts := [(0, _), (1, _)]) rfl rfl (C1 _ _)) (DF M 0 (AA rfl) rfl rfl rfl rfl rfl underlying150 underlying9 rfl ?_)))))
 intro w9 M
 refine ya rfl (BU (parts := [(0, _), (1, _)]) rfl rfl (C1 _ _)) (DF M 0 (AA rfl) rfl rfl rfl rfl rfl underlying150 underlying9 rfl fun w10 M => ya rfl (BU (parts := [(0, _), (1, _)]) rfl rfl (C1 _ _)) (DF M 0 (AA rfl) rfl rfl rfl rfl rfl underlying150 underlying9 rfl fun w11 M => ya rfl (BU (parts := [(0, _), (1, _)]) rfl rfl (C1 _ _)) (DF M 0 (AA rfl) rfl rfl rfl rfl rfl underlying150 underlying9 rfl fun w12 M => ya rfl (BU (parts := [(0, _), (1, _)]) rfl rfl (C1 _ _)) (DF M 0 (AA rfl) rfl rfl rfl rfl rfl underlying150 underlying9 rfl fun w13 M => ya rfl (BU (parts := [(0, _), (1, _)]) rfl rfl (C1 _ _)) (DF M 0 (AA rfl) rfl rfl rfl rfl rfl underlying150 underlying9 rfl fun w14 M => yb rfl ?_)))))
 exact yb rfl (A4 (A5 (AF (AK rfl rfl ⟨_, rfl, M.mp 0 rfl, hg1, M.fr⟩))))
theorem NZ (v : List UInt8) (w : World) :
 Calls prog 153 #[str v] w fun e w' => e = .returned (.bool (HV v)) ∧ Fr0 w w' := by
 refine AJ (vs := [_]) func153 rfl ntmps153 rfl ?_
 have M := CN w
 refine A9 (A0 (yb rfl (A4 (A5 (A9 (A0 (DC M (AA rfl) rfl rfl [str [97, 110, 100], str [111, 114], str [110, 111, 116], str [116, 114, 117, 101], str [102, 97, 108, 115, 101]] ([str [97, 110, 100], str [111, 114], str [110, 111, 116], str [116, 114, 117, 101], str [102, 97, 108, 115, 101]]) rfl rfl rfl rfl underlying29 CR rfl rfl (by intro v hv; simp only [List.mem_cons, List.not_mem_nil, or_false] at hv; rcases hv with rfl | rfl | rfl | rfl | rfl <;> rfl) rfl fun g3 w1 hg3 M => yb rfl (cp M 5 rfl (AE rfl rfl call85) (O9 _ _ [[97, 110, 100], [111, 114], [110, 111, 116], [116, 114, 117, 101], [102, 97, 108, 115, 101]] _ _ (by first | omega | decide) (M.rdBlk 0 rfl rfl)) fun w2 M => yb rfl (A4 (A5 (AF (AK rfl rfl ?_))))))))))))
 exact ⟨by rw [nE], M.fr⟩
def E7 (t : List UInt8) (x : Lx) : Lx := (if ((decide (t = [116, 114, 117, 101])) || (decide (t = [102, 97, 108, 115, 101]))) = true then (⟨x.at_, .lit ⟨2, 0, (decide (t = [116, 114, 117, 101])), []⟩, x.say, x.tat, x.fin, x.e, x.wh⟩ : Lx) else (if (HV t) = true then (⟨x.at_, x.nd, t, x.tat, x.fin, x.e, x.wh⟩ : Lx) else (if (!(BL t)) = true then (x.fail 4 x.at_) else (⟨x.at_, .var t, x.say, x.tat, x.fin, x.e, x.wh⟩ : Lx))))
theorem iQ (s : List UInt8) (x : Lx) (gx : Nat) (t : List UInt8) (w : World) (hb : Blk w gx 142 (Lx.cells s x)) (ht : (t.length : Int) < 4611686018427387904) :
 Calls prog 150 #[pg gx, str t] w fun e w' => e = .returned (.tuple #[]) ∧ Blk w' gx 142 (Lx.cells s (E7 t x)) ∧ Fr (fun k => k = gx) w w' := by
 refine AJ (vs := [_, _]) func150 rfl ntmps150 rfl ?_
 have M : Mem w (fun k => k = gx) [As.blk gx 142 (Lx.cells s x)] w := Mem.one hb
 refine AV (A9 (A0 (yb rfl (ya rfl (DE rfl rfl rfl) (yb rfl (AX 3 [(1, str t), (0, pg gx), (16, .bool ((decide (t = [116, 114, 117, 101])) || (decide (t = [102, 97, 108, 115, 101]))))] (fun w' => Mem w (fun k => k = gx) [As.blk gx 142 (Lx.cells s x)] w') ?_ (fun k13 => ?_)))))))
 ·intro w1 M
  refine yb rfl (A4 (A5 (AT (b := ((decide (t = [116, 114, 117, 101])) || (decide (t = [102, 97, 108, 115, 101])))) rfl (fun h10 => ?_) (fun h10 => ?_))))
  ·have h10p := ((EL h10).imp (fun z => (odt z)) (fun z => (odt z)))
   exact A0 (yb rfl (yb rfl (ya rfl (DE rfl rfl rfl) (ya rfl (BU (parts := [(0, _), (2, _)]) rfl rfl (PL _ _)) (ya rfl (BU (parts := [(0, _), (1, _)]) rfl rfl (EE _ _ _ _ _)) (yb rfl (yb rfl (yb rfl (B8 (cs' := [str s, .int .i64 ((x.at_ : Nat) : Int), .int .u8 1, .int .u8 2, .int .i64 0, .bool (decide (t = [116, 114, 117, 101])), str [], str [], .slice none 0 0, str x.say, .int .i64 ((x.tat : Nat) : Int), .bool x.fin, .int .i64 x.e, .int .i64 ((x.wh : Nat) : Int)]) M 0 (AA rfl) rfl rfl rfl rfl rfl AR rfl (AI rfl) (AY rfl) rfl fun w2 M => A4 (AC (C3 (Or.inr rfl) rfl ⟨rfl, by rw [E7, if_pos h10]; exact M.blk 0 rfl, M.fr⟩)))))))))))
  ·have h10p := (And.intro (odf (CE h10).1) (odf (CE h10).2))
   refine A9 (A0 (yb rfl (cp M 27 rfl (AE rfl rfl call153) (NZ _ _) fun w3 M => yb rfl (A4 (A5 (AT (b := (HV t)) rfl (fun h25 => ?_) (fun h25 => ?_)))))))
   ·refine A0 ?_
    iterate 5 refine yb rfl ?_
    exact BP (cs' := [str s, .int .i64 ((x.at_ : Nat) : Int), .int .u8 (x.nd.op.toNat : Int), .int .u8 (x.nd.vl.kind.toNat : Int), .int .i64 x.nd.vl.int, .bool x.nd.vl.bool, str x.nd.vl.text, str x.nd.nm, .slice none 0 0, str t, .int .i64 ((x.tat : Nat) : Int), .bool x.fin, .int .i64 x.e, .int .i64 ((x.wh : Nat) : Int)]) M 0 (AA rfl) rfl rfl rfl rfl rfl rfl rfl sz_string (AZ rfl) rfl fun w4 M => A4 (AC (C3 (Or.inr rfl) rfl ⟨rfl, by rw [E7, if_neg (BE h10), if_pos h25]; exact M.blk 0 rfl, M.fr⟩))
   ·refine A9 (A0 (yb rfl (cp M 35 rfl (AE rfl rfl call56) (DQ _ _ (by omega)) fun w5 M => yb rfl (yb rfl (A4 (A5 (AT (b := (!(BL t))) rfl (fun h33 => ?_) (fun h33 => ?_))))))))
    ·have h33p := (C4 h33)
     refine A0 ?_
     iterate 4 refine yb rfl ?_
     refine yl rfl rfl (M.cell 0 rfl rfl) (cl 42 rfl (AE rfl rfl call125) (EC s _ _ _ _ _ (M.blk 0 rfl)) ?_)
     rintro _ w6 ⟨rfl, hbw6, hfw6⟩
     have M := M.putB 0 rfl hbw6 hfw6
     exact ⟨_, rfl, A4 (AC (C3 (Or.inr rfl) rfl ⟨rfl, by rw [E7, if_neg (BE h10), if_neg (BE h25), if_pos h33]; exact M.blk 0 rfl, M.fr⟩))⟩
    ·have h33p := (C5 h33)
     exact A0 (yb rfl (yb rfl (ya rfl (BU (parts := [(0, _), (2, _)]) rfl rfl (PK _ _)) (yb rfl (yb rfl (yb rfl (B8 (cs' := [str s, .int .i64 ((x.at_ : Nat) : Int), .int .u8 2, .int .u8 0, .int .i64 0, .bool false, str [], str t, .slice none 0 0, str x.say, .int .i64 ((x.tat : Nat) : Int), .bool x.fin, .int .i64 x.e, .int .i64 ((x.wh : Nat) : Int)]) M 0 (AA rfl) rfl rfl rfl rfl rfl AR rfl (AI rfl) (AY rfl) rfl fun w7 M => A4 (AC (C3 (Or.inr rfl) rfl ⟨rfl, by rw [E7, if_neg (BE h10), if_neg (BE h25), if_neg (BE h33)]; exact M.blk 0 rfl, M.fr⟩)))))))))
 refine AM (d := 13) (b := (decide (t = [116, 114, 117, 101]))) rfl (fun h13 => ?_) (fun h13 => ?_)
 ·exact yo rfl (yo rfl (yb rfl (k13 _ _ M ⟨rfl, rfl, (by rw [h13]; rfl), trivial⟩)))
 ·exact yd rfl (yp rfl) (yd rfl (DE rfl rfl rfl) (yb rfl (k13 _ _ M ⟨rfl, rfl, (by rw [h13]; rfl), trivial⟩)))
section
section
variable {P : Program} {e : Env} {w : World} {o : Oper}
theorem cR {s d : TypeId} {x : Operand} {v v' : Value} (ho : o.op = .convert s d x) (hx : ev e x = some v) (hc : (convert s d v).run P w = .ok v' w) : Y P e o w v' := fun ρ h => by
 unfold execOp; simp [ho, h _ _ hx, hc]
theorem fP {t t' el n : Nat} {a : Addr} {x y : Operand} (ho : o.op = .binOp .neq t x y t') (hx : ev e x = some (.pointer (some a))) (hy : ev e y = some (.pointer (some a))) (hu : I4 P t = some el) (hz : ∀ w, (Go.sizeOf el).run P w = .ok n w) : Y P e o w (.bool false) := fun ρ h => by
 have h1 : (Op.equal t (.pointer (some a)) (.pointer (some a))).run P w = .ok true w := by
  unfold Op.equal Op.maxDepth Op.equalIn
  simp [run_underlying (IJ hu), hz, sameAddr]
 unfold execOp; simp [ho, h _ _ hx, h _ _ hy, eqGuard_at_pointer, binOp, h1]
theorem uN {f : FuncId} {x : Operand} {ts : Array TypeId} {v : Value} (ho : o.op = .call { callee := .value (.func f), args := #[x], argTypes := ts }) (hx : ev e x = some v) (hc : ∀ (u : Value) (w : World), (callFunc f #[u]).run P w = .ok (.value u) w) : Y P e o w v := fun ρ h => by
 have h0 : ρ (.func f) = .func (.func f) #[] #[] := h _ _ rfl
 unfold execOp; simp [ho, h _ _ hx, h0, resolve, invoke, Deferred.ofValue, hc]
end
theorem Fr.below1 {w w' : World} {b B : Nat} (h : Fr (fun k => k = b) w w') (hb : B ≤ b) (hBw : B ≤ w.heap.size) : Below B w w' := ⟨h.os, h.tape, h.output, h.size, fun k hk => h.block k (by omega) (by omega)⟩
theorem xQ (u : Value) (w : World) : (callFunc 191 #[u]).run prog w = .ok (.value u) w := by
 rw [run_callFunc_extern func191 (by kernel_rfl) (by kernel_rfl) (by kernel_rfl) (e := Extern.AbiNoEscape.same) (by kernel_rfl), Lib.run_noEscape]
 rfl
theorem pC : liesAt prog prog.depth 198 (2 / prog.cellsOf 198) 0 198 1 = true := by kernel_rfl
theorem pD : (prog.info? 198).map (·.size) = some 2 := by kernel_rfl
theorem m9 : (prog.info? 196).map (·.size) = some 1 := by kernel_rfl
theorem lM : (prog.info? 175).map (·.size) = some 1 := by kernel_rfl
theorem qE : (prog.info? 5).map (fun i => (i.zero, i.size, i.bytes)) = some (some (.int .u8 0), 1, 1) := by kernel_rfl
theorem uZ : (prog.info? 5).map (fun i => (i.zero, i.size)) = some (some (.int .u8 0), 1) := by kernel_rfl
theorem WW (B b : Nat) (bs : List Value) (w : World) (h : Lib.IsBuilder 198 5 B b bs w) (hBw : B ≤ w.heap.size) :
 Calls prog 183 #[.pointer (some ⟨b, 0, none⟩)] w fun e w' => e = .returned (.tuple #[]) ∧ Lib.BuilderAt 198 5 B b (.pointer (some ⟨b, 0, none⟩)) bs w' ∧ Below B w w' := by
 rcases h with h | h
 ·have hsh := h.shape
  obtain ⟨hB, v, hbk, hown, hne⟩ := h
  have hb : Blk w b 198 [.pointer none, v] := hbk
  have c0 : Cell w.heap b 0 (.pointer none) := hb.c 0 rfl
  obtain ⟨j, hj, hjs⟩ := Option.map_eq_some_iff.1 pD
  refine AJ (vs := [_]) func183 rfl ntmps183 rfl (A9 (A0 (yb rfl (yb rfl (yb rfl (yl rfl rfl (by assumption) (ya rfl (XD rfl rfl rfl (pt rfl)) (A4 (A5 (DI rfl (A0 (yb rfl (yb rfl (ya rfl (cR rfl rfl (Lib.run_to_unsafe _ ⟨b, 0, none⟩ underlying196 underlying219 hj (by rw [hjs]; decide) hsh (by show 0 < 2; omega))) (ya rfl (uN rfl rfl xQ) ?_)))))))))))))))
  refine ya rfl (cR rfl rfl (Lib.run_from_unsafe _ ⟨b, 0, none⟩ underlying219 underlying196 hj hsh pC)) (yb rfl (yb rfl (CM none (AA rfl) rfl rfl (fun ρ hρ => EG _ _ _ rfl b 0 _ _ (.pointer (some ⟨b, 0, none⟩)) (hρ _ _ rfl) (hρ _ _ rfl) rfl hb m9 (by show 0 < 2; omega) rfl) ?_)))
  rintro _ w1 ⟨rfl, hb1, hf1⟩
  exact A4 (C3 (Or.inr rfl) rfl ⟨rfl, ⟨hB, v, hb1, aR hown hf1 (fun k hk e => hne (by rw [hk, e])), hne⟩, hf1.below1 hB hBw⟩)
 ·have h' := h
  obtain ⟨hB, v, hbk, hown, hne⟩ := h
  have hb : Blk w b 198 [.pointer (some ⟨b, 0, none⟩), v] := hbk
  have c0 : Cell w.heap b 0 (.pointer (some ⟨b, 0, none⟩)) := hb.c 0 rfl
  refine AJ (vs := [_]) func183 rfl ntmps183 rfl (A9 (A0 (yb rfl (yb rfl (yb rfl (yl rfl rfl (by assumption) (ya rfl (XD rfl rfl rfl (pt rfl)) (A4 (A5 (CW rfl (A9 (A0 (yb rfl (yb rfl (yb rfl ?_)))))))))))))))
  exact yl rfl rfl (by assumption) (yb rfl (ya rfl (fP rfl rfl rfl (pt rfl) sizeOf198) (A4 (A5 (CW rfl (AN (C3 (Or.inr rfl) rfl ⟨rfl, h', Below.refl B w⟩)))))))
theorem NC (B b : Nat) (l : List UInt8) (c : UInt8) (w : World) (h : Lib.IsBuilder 198 5 B b (bvs l) w) (hlen : l.length + 1 ≤ 140737488355328) (hBw : B ≤ w.heap.size) :
 Calls prog 173 #[.pointer (some ⟨b, 0, none⟩), .int .u8 (c.toNat : Int)] w fun e w' => e = .returned .nilIface ∧ Lib.IsBuilder 198 5 B b (bvs (l ++ [c])) w' ∧ Below B w w' := by
 refine AJ (vs := [_, _]) func173 rfl ntmps173 rfl (A9 (A0 (yb rfl (A4 (A5 (A9 (A0 (yb rfl (cl 6 rfl (AE rfl rfl call183) (WW B b _ _ h hBw) ?_)))))))))
 rintro _ w1 ⟨rfl, h1, hb1⟩
 refine ⟨_, rfl, ?_⟩
 obtain ⟨hB, v, hbk, hown, hne⟩ := h1
 have hb : Blk w1 b 198 [.pointer (some ⟨b, 0, none⟩), v] := hbk
 obtain ⟨A, cap, rfl, _, hcm, hrd, _⟩ := Y4 hown
 have c1 : Cell w1.heap b 1 (.slice A (bvs l).length cap) := hb.c 1 rfl
 refine A4 (A5 (A9 (A0 ?_)))
 iterate 4 refine yb rfl ?_
 refine yl rfl rfl (by assumption) (yb rfl (CM (some 13) (AA rfl) rfl rfl (fun ρ hρ => GZ [bv c] (.int .u8 0) hρ rfl rfl rfl rfl underlying175 uZ (by decide) (by decide) (by intro u hu; simp only [List.mem_singleton] at hu; subst hu; rfl)) ?_))
 rintro _ w2 ⟨g2, rfl, hg1, hg2, hb2, hf2⟩
 have hB1 := hb1.size
 refine CM (some 14) (AA rfl) rfl rfl (fun ρ hρ => ZB _ _ 175 rfl B 5 _ _ underlying175 qE rfl _ _ (bvs l) (hρ _ _ rfl) (aR hown hf2 (fun _ _ hh => hh)) _ 1 1 [bv c] (hρ _ _ rfl) (Rd.ofBlk hb2 rfl) (by intro u hu; simp only [List.mem_singleton] at hu; subst hu; rfl) (by rw [TD]; unfold maxLen; omega) (by rw [TD]; omega) (by have := hf2.size; omega)) ?_
 rintro v3 w3 ⟨hown3, hgr, hrow⟩
 obtain ⟨A3, cap3, rfl, _, _, _, _⟩ := Y4 hown3
 have hlt : b < w1.heap.size := hb.lt
 have hb3 : Blk w3 b 198 [.pointer (some ⟨b, 0, none⟩), .slice A (bvs l).length cap] := by
  have h2 : Blk w2 b 198 _ := hb.fr0 hf2
  exact (hgr.block b h2.lt (fun e => hne e.symm)).trans h2
 have hne3 : (Value.slice A3 ((bvs l).length + 1) cap3).ownBlock ≠ some b := Lib.ownBlock_ne hown3 hb3 (by decide)
 refine yb rfl (yb rfl (CM none (AA rfl) rfl rfl (fun ρ hρ => EG _ _ _ rfl b 1 _ _ (.slice A3 ((bvs l).length + 1) cap3) (hρ _ _ rfl) (hρ _ _ rfl) rfl hb3 lM (by show 1 < 2; omega) rfl) ?_))
 rintro _ w4 ⟨rfl, hb4, hf4⟩
 refine A4 (A5 (A9 (A0 (yb rfl (A4 (A5 (AF (AK rfl rfl ?_))))))))
 have hl : bvs (l ++ [c]) = bvs l ++ [bv c] := by simp [bvs]
 have hf3 : Fr (fun k => some k = (Value.slice A (bvs l).length cap).ownBlock) w2 w3 := ⟨hgr.os, hgr.tape, hgr.output, hgr.size, fun k hk hn => hgr.block k hk hn⟩
 refine ⟨rfl, .inr ⟨hB, _, hb4, ?_, ?_⟩, ?_⟩
 ·rw [hl]
  have := aR hown3 hf4 (fun k hk e => hne3 (by rw [hk, e]))
  simpa using this
 ·simpa using hne3
 ·have hw2 := hf2.size
  refine hb1.trans ⟨hf4.os.trans (hf3.os.trans hf2.os), hf4.tape.trans (hf3.tape.trans hf2.tape), hf4.output.trans (hf3.output.trans hf2.output), Nat.le_trans hf2.size (Nat.le_trans hf3.size hf4.size), fun k hk => ?_⟩
  rw [hf4.block k (by have := hf3.size; omega) (by omega), hf3.block k (by omega) (fun e => ?_), hf2.block k (by omega) (fun hh => hh)]
  have := (hown.lt k e.symm).1
  omega
end
end Go.Proofs.YtdaihdknnlphkaaGreatDoor
namespace Go.Proofs
open Go.Shelf
def Tryz.lays169_ren : Go.Shelf.Ren := ⟨fun | 169 => 172 | n => n, fun | 70 => 196 | 9 => 9 | 0 => 0 | 72 => 198 | 37 => 175 | 127 => 211 | 3 => 3 | 5 => 5 | n => n, fun | n => n⟩
theorem Tryz.lays169 : Go.Proofs.Lays.n169 prog Tryz.lays169_ren := {
 mixed := by kernel_rfl
 f169 := func172.trans (congrArg some (by kernel_rfl))
 t0 := underlying0
 a0 := isAgg0
 z0 := sizeOf0
 v0 := zeroValue0
 t3 := underlying3
 a3 := isAgg3
 z3 := sizeOf3
 v3 := zeroValue3
 t9 := underlying9
 a9 := isAgg9
 z9 := sizeOf9
 v9 := zeroValue9
 t37 := underlying175
 a37 := isAgg175
 z37 := sizeOf175
 v37 := zeroValue175
 t70 := underlying196
 a70 := isAgg196
 z70 := sizeOf196
 v70 := zeroValue196
 t72 := underlying198
 a72 := isAgg198
 z72 := sizeOf198
 v72 := zeroValue198
 t127 := underlying211
 a127 := isAgg211
 z127 := sizeOf211
 v127 := zeroValue211 }
theorem Tryz.Builder_Extra_169 : Builder.Extra prog Tryz.lays169_ren := {
 sizeBuilder := by kernel_rfl
 liesBuilder := by kernel_rfl
 t5 := underlying5
 a5 := isAgg5
 z5 := sizeOf5
 v5 := zeroValue5
 infoByte := by kernel_rfl
 cellsByte := by kernel_rfl
 sizeByte := by kernel_rfl
 neB5 := by decide }
def Tryz.lays161_ren : Go.Shelf.Ren := ⟨fun | 161 => 144 | 231 => 165 | 227 => 166 | 233 => 167 | 235 => 168 | 228 => 177 | 197 => 178 | 151 => 179 | 260 => 184 | 152 => 185 | 137 => 192 | 119 => 193 | 224 => 194 | 225 => 195 | 217 => 201 | 266 => 203 | n => n, fun | 9 => 9 | 4 => 4 | 3 => 3 | 5 => 5 | 117 => 186 | 116 => 185 | 0 => 0 | 124 => 189 | 105 => 206 | 21 => 21 | 119 => 119 | 46 => 137 | 139 => 169 | 138 => 168 | n => n, fun | 3 => 0 | 4 => 1 | n => n⟩
theorem Tryz.lays161 : Go.Proofs.Lays.n161 prog Tryz.lays161_ren := {
 mixed := by kernel_rfl
 f119 := func193.trans (congrArg some (by kernel_rfl))
 f137 := func192.trans (congrArg some (by kernel_rfl))
 f151 := func179.trans (congrArg some (by kernel_rfl))
 f152 := func185.trans (congrArg some (by kernel_rfl))
 f161 := func144.trans (congrArg some (by kernel_rfl))
 f197 := func178.trans (congrArg some (by kernel_rfl))
 f217 := func201.trans (congrArg some (by kernel_rfl))
 f224 := func194.trans (congrArg some (by kernel_rfl))
 f225 := func195.trans (congrArg some (by kernel_rfl))
 f227 := func166.trans (congrArg some (by kernel_rfl))
 f228 := func177.trans (congrArg some (by kernel_rfl))
 f231 := func165.trans (congrArg some (by kernel_rfl))
 f233 := func167.trans (congrArg some (by kernel_rfl))
 f235 := func168.trans (congrArg some (by kernel_rfl))
 f260 := func184.trans (congrArg some (by kernel_rfl))
 f266 := func203.trans (congrArg some (by kernel_rfl))
 t0 := underlying0
 a0 := isAgg0
 z0 := sizeOf0
 v0 := zeroValue0
 t3 := underlying3
 a3 := isAgg3
 z3 := sizeOf3
 v3 := zeroValue3
 t4 := underlying4
 a4 := isAgg4
 z4 := sizeOf4
 v4 := zeroValue4
 t5 := underlying5
 a5 := isAgg5
 z5 := sizeOf5
 v5 := zeroValue5
 t9 := underlying9
 a9 := isAgg9
 z9 := sizeOf9
 v9 := zeroValue9
 t21 := underlying21
 a21 := isAgg21
 z21 := sizeOf21
 v21 := zeroValue21
 t46 := underlying137
 a46 := isAgg137
 z46 := sizeOf137
 v46 := zeroValue137
 t105 := underlying206
 a105 := isAgg206
 z105 := sizeOf206
 v105 := zeroValue206
 t116 := underlying185
 a116 := isAgg185
 z116 := sizeOf185
 t117 := underlying186
 a117 := isAgg186
 z117 := sizeOf186
 v117 := zeroValue186
 t119 := underlying119
 a119 := isAgg119
 z119 := sizeOf119
 t124 := underlying189
 a124 := isAgg189
 z124 := sizeOf189
 v124 := zeroValue189
 t138 := underlying168
 a138 := isAgg168
 z138 := sizeOf168
 v138 := zeroValue168
 t139 := underlying169
 a139 := isAgg169
 z139 := sizeOf169
 v139 := zeroValue169
 g3 := by kernel_rfl
 g4 := by kernel_rfl }
open Go.RowKit in
theorem Tryz.strings_TrimLeft_one (s : ByteArray) (c : UInt8) (hc : c.toNat < 128) (w : World) :
 Calls prog 144 #[.string s, .string ⟨#[c]⟩] w fun e w' => e = .returned (.string ⟨(Lib.trimLeftB s.data.toList c).toArray⟩) ∧ w' = w := Any.strings_TrimLeft_one Tryz.lays161 s c hc w
open Go.RowKit in
theorem Tryz.Builder_String_any_f (B b : Nat) (l : List UInt8) (w : World) (h : Lib.IsBuilderF 198 5 B b (Lib.byteCells l) w) (hBw : B ≤ w.heap.size) :
 Calls prog 172 #[.pointer (some ⟨b, 0, none⟩)] w fun e w' => e = .returned (.string ⟨l.toArray⟩) ∧ (Lib.IsBuilderF 198 5 B b (Lib.byteCells l) w' ∧ Below B w w') := Any.Builder_String_any_f Tryz.lays169 Tryz.Builder_Extra_169 B b l w h hBw
def Tryz.laysC174_ren : Go.Shelf.Ren := ⟨fun | 174 => 171 | 247 => 181 | 245 => 182 | 287 => 186 | 279 => 187 | 280 => 188 | 281 => 189 | 282 => 190 | 321 => 196 | 322 => 197 | 316 => 198 | 171 => 200 | 205 => 199 | 243 => 202 | 246 => 204 | 283 => 205 | 284 => 206 | 285 => 207 | 286 => 208 | 129 => 142 | 317 => 209 | 318 => 210 | 319 => 211 | 320 => 212 | 337 => 213 | 338 => 214 | n => n, fun | 9 => 9 | 3 => 3 | 2 => 2 | 75 => 193 | 85 => 194 | 4 => 4 | 167 => 213 | 5 => 5 | 53 => 165 | 175 => 214 | 46 => 137 | 168 => 216 | 37 => 175 | 0 => 0 | 210 => 226 | 21 => 21 | 127 => 211 | 145 => 231 | 143 => 229 | 171 => 233 | 173 => 235 | 212 => 238 | 51 => 163 | 20 => 20 | 213 => 239 | 232 => 240 | 233 => 241 | 80 => 199 | n => n, fun | 15 => 2 | 16 => 3 | 17 => 5 | 18 => 6 | 19 => 7 | n => n⟩
theorem Tryz.laysC174 : Go.Proofs.LaysC.n174 prog Tryz.laysC174_ren := {
 mixed := by kernel_rfl
 f129 := func142.trans (congrArg some (by kernel_rfl))
 f171 := func200.trans (congrArg some (by kernel_rfl))
 f174 := func171.trans (congrArg some (by kernel_rfl))
 f205 := func199.trans (congrArg some (by kernel_rfl))
 f243 := func202.trans (congrArg some (by kernel_rfl))
 f245 := func182.trans (congrArg some (by kernel_rfl))
 f246 := func204.trans (congrArg some (by kernel_rfl))
 f247 := func181.trans (congrArg some (by kernel_rfl))
 f279 := func187.trans (congrArg some (by kernel_rfl))
 f280 := func188.trans (congrArg some (by kernel_rfl))
 f281 := func189.trans (congrArg some (by kernel_rfl))
 f282 := func190.trans (congrArg some (by kernel_rfl))
 f283 := func205.trans (congrArg some (by kernel_rfl))
 f284 := func206.trans (congrArg some (by kernel_rfl))
 f285 := func207.trans (congrArg some (by kernel_rfl))
 f286 := func208.trans (congrArg some (by kernel_rfl))
 f287 := func186.trans (congrArg some (by kernel_rfl))
 f316 := func198.trans (congrArg some (by kernel_rfl))
 f317 := func209.trans (congrArg some (by kernel_rfl))
 f318 := func210.trans (congrArg some (by kernel_rfl))
 f319 := func211.trans (congrArg some (by kernel_rfl))
 f320 := func212.trans (congrArg some (by kernel_rfl))
 f321 := func196.trans (congrArg some (by kernel_rfl))
 f322 := func197.trans (congrArg some (by kernel_rfl))
 f337 := func213.trans (congrArg some (by kernel_rfl))
 f338 := func214.trans (congrArg some (by kernel_rfl))
 t0 := underlying0
 a0 := isAgg0
 z0 := sizeOf0
 v0 := zeroValue0
 t2 := underlying2
 a2 := isAgg2
 z2 := sizeOf2
 v2 := zeroValue2
 t3 := underlying3
 a3 := isAgg3
 z3 := sizeOf3
 v3 := zeroValue3
 t4 := underlying4
 a4 := isAgg4
 z4 := sizeOf4
 v4 := zeroValue4
 t5 := underlying5
 a5 := isAgg5
 z5 := sizeOf5
 v5 := zeroValue5
 t9 := underlying9
 a9 := isAgg9
 z9 := sizeOf9
 v9 := zeroValue9
 t20 := underlying20
 a20 := isAgg20
 z20 := sizeOf20
 v20 := zeroValue20
 t21 := underlying21
 a21 := isAgg21
 z21 := sizeOf21
 v21 := zeroValue21
 t37 := underlying175
 a37 := isAgg175
 z37 := sizeOf175
 v37 := zeroValue175
 t46 := underlying137
 a46 := isAgg137
 z46 := sizeOf137
 v46 := zeroValue137
 t51 := underlying163
 a51 := isAgg163
 z51 := sizeOf163
 v51 := zeroValue163
 t53 := underlying165
 a53 := isAgg165
 z53 := sizeOf165
 v53 := zeroValue165
 t75 := underlying193
 a75 := isAgg193
 z75 := sizeOf193
 v75 := zeroValue193
 t85 := underlying194
 a85 := isAgg194
 z85 := sizeOf194
 v85 := zeroValue194
 t127 := underlying211
 a127 := isAgg211
 z127 := sizeOf211
 v127 := zeroValue211
 t143 := underlying229
 a143 := isAgg229
 z143 := sizeOf229
 v143 := zeroValue229
 t145 := underlying231
 a145 := isAgg231
 z145 := sizeOf231
 v145 := zeroValue231
 t167 := underlying213
 a167 := isAgg213
 z167 := sizeOf213
 v167 := zeroValue213
 t168 := underlying216
 a168 := isAgg216
 z168 := sizeOf216
 v168 := zeroValue216
 t171 := underlying233
 a171 := isAgg233
 z171 := sizeOf233
 v171 := zeroValue233
 t173 := underlying235
 a173 := isAgg235
 z173 := sizeOf235
 v173 := zeroValue235
 t175 := underlying214
 a175 := isAgg214
 z175 := sizeOf214
 v175 := zeroValue214
 t210 := underlying226
 a210 := isAgg226
 z210 := sizeOf226
 v210 := zeroValue226
 t212 := underlying238
 a212 := isAgg238
 z212 := sizeOf238
 v212 := zeroValue238
 t213 := underlying239
 a213 := isAgg239
 z213 := sizeOf239
 t232 := underlying240
 a232 := isAgg240
 z232 := sizeOf240
 v232 := zeroValue240
 t233 := underlying241
 a233 := isAgg241
 z233 := sizeOf241
 v233 := zeroValue241
 g15 := by kernel_rfl
 g16 := by kernel_rfl
 g17 := by kernel_rfl
 g18 := by kernel_rfl
 g19 := by kernel_rfl
 t80 := underlying199
 a80 := isAgg199
 z80 := sizeOf199
 v80 := zeroValue199
 i0 := by kernel_rfl
 i2 := by kernel_rfl
 i3 := by kernel_rfl
 i4 := by kernel_rfl
 i5 := by kernel_rfl
 i9 := by kernel_rfl
 i20 := by kernel_rfl
 i21 := by kernel_rfl
 i37 := by kernel_rfl
 i46 := by kernel_rfl
 i51 := by kernel_rfl
 i53 := by kernel_rfl
 i75 := by kernel_rfl
 i80 := by kernel_rfl
 i85 := by kernel_rfl
 i127 := by kernel_rfl
 i143 := by kernel_rfl
 i145 := by kernel_rfl
 i167 := by kernel_rfl
 i168 := by kernel_rfl
 i171 := by kernel_rfl
 i173 := by kernel_rfl
 i175 := by kernel_rfl
 i210 := by kernel_rfl
 i212 := by kernel_rfl
 i232 := by kernel_rfl
 i233 := by kernel_rfl
 m15 := by kernel_rfl
 m16 := by kernel_rfl
 m17 := by kernel_rfl
 m18 := by kernel_rfl
 m19 := by kernel_rfl
 c0 := by kernel_rfl
 c2 := by kernel_rfl
 c3 := by kernel_rfl
 c4 := by kernel_rfl
 c5 := by kernel_rfl
 c9 := by kernel_rfl
 c20 := by kernel_rfl
 c21 := by kernel_rfl
 c37 := by kernel_rfl
 c46 := by kernel_rfl
 c51 := by kernel_rfl
 c53 := by kernel_rfl
 c75 := by kernel_rfl
 c80 := by kernel_rfl
 c85 := by kernel_rfl
 c127 := by kernel_rfl
 c143 := by kernel_rfl
 c145 := by kernel_rfl
 c167 := by kernel_rfl
 c168 := by kernel_rfl
 c171 := by kernel_rfl
 c173 := by kernel_rfl
 c175 := by kernel_rfl
 c210 := by kernel_rfl
 c212 := by kernel_rfl
 c213 := by kernel_rfl
 c232 := by kernel_rfl
 c233 := by kernel_rfl }
open Go.RowKit in
theorem Tryz.strconv_ParseInt_10_at64_ok (s : ByteArray) (hmax : s.size ≤ 9223372036854775806) (v : Int) (h : Lib.parseIntB 64 s.data.toList = .ok v) (w : World) :
 Calls prog 171 #[.string s, .int .i64 10, .int .i64 64] w fun e w' => e = .returned (.tuple #[.int .i64 v, .nilIface]) ∧ (w' = w ∨ ∃ t, w' = Lib.bytesWorld w 5 t) := Any.strconv_ParseInt_10_at64_ok Tryz.laysC174 s hmax v h w
open Go.RowKit in
theorem Tryz.strconv_ParseInt_10_at64_syntax (s : ByteArray) (hlim : s.size ≤ 281474976710656) (h : Lib.parseIntB 64 s.data.toList = Lib.NumEnd.syntax) (ev : Value) (w : World) (hv : w.cell? ⟨2, 0, none⟩ = some ev) (hev : ev = .nilIface ∨ ∃ te pe, ev = .iface te pe) :
 Calls prog 171 #[.string s, .int .i64 10, .int .i64 64] w fun e w' => ∃ N, e = .returned (.tuple #[.int .i64 (0), .iface 216 (.pointer (some ⟨N, 0, none⟩))]) ∧ w.heap.size ≤ N ∧ w'.heap[N]? = some (.cells #[.string ⟨#[80, 97, 114, 115, 101, 73, 110, 116]⟩, .string s, ev] 226 (0, 0)) ∧ Below w.heap.size w w' := Any.strconv_ParseInt_10_at64_syntax Tryz.laysC174 s hlim h ev w hv hev
open Go.RowKit in
theorem Tryz.strconv_ParseInt_10_at64_range (s : ByteArray) (hlim : s.size ≤ 281474976710656) (h : Lib.parseIntB 64 s.data.toList = .range) (ev : Value) (w : World) (hv : w.cell? ⟨3, 0, none⟩ = some ev) (hev : ev = .nilIface ∨ ∃ te pe, ev = .iface te pe) :
 Calls prog 171 #[.string s, .int .i64 10, .int .i64 64] w fun e w' => ∃ N, e = .returned (.tuple #[.int .i64 (Lib.intSat 64 s.data.toList), .iface 216 (.pointer (some ⟨N, 0, none⟩))]) ∧ w.heap.size ≤ N ∧ w'.heap[N]? = some (.cells #[.string ⟨#[80, 97, 114, 115, 101, 73, 110, 116]⟩, .string s, ev] 226 (0, 0)) ∧ Below w.heap.size w w' := Any.strconv_ParseInt_10_at64_range Tryz.laysC174 s hlim h ev w hv hev
def Tryz.laysGw15_ren : Go.Shelf.Ren := ⟨fun | 15 => 169 | 20 => 180 | n => n, fun | 9 => 9 | 23 => 191 | 3 => 3 | 4 => 4 | 0 => 0 | 21 => 21 | n => n, fun | n => n⟩
theorem Tryz.laysGw15 : Go.Proofs.LaysGw.n15 prog Tryz.laysGw15_ren := {
 mixed := by kernel_rfl
 f15 := func169.trans (congrArg some (by kernel_rfl))
 f20 := func180.trans (congrArg some (by kernel_rfl))
 t0 := underlying0
 a0 := isAgg0
 z0 := sizeOf0
 v0 := zeroValue0
 i0 := by kernel_rfl
 t3 := underlying3
 a3 := isAgg3
 z3 := sizeOf3
 v3 := zeroValue3
 i3 := by kernel_rfl
 t4 := underlying4
 a4 := isAgg4
 z4 := sizeOf4
 v4 := zeroValue4
 i4 := by kernel_rfl
 t9 := underlying9
 a9 := isAgg9
 z9 := sizeOf9
 v9 := zeroValue9
 i9 := by kernel_rfl
 t21 := underlying21
 a21 := isAgg21
 z21 := sizeOf21
 v21 := zeroValue21
 i21 := by kernel_rfl
 t23 := underlying191
 a23 := isAgg191
 z23 := sizeOf191
 v23 := zeroValue191
 i23 := by kernel_rfl }
open Go.RowKit Go.Lib in
theorem Tryz.strings_IndexFunc_grows (g : Nat) (lb : Array Value) (eg : ∀ args w, (callFunc g args).run prog w = .ok (.enter g args) w) (p : Nat → Bool) (s : ByteArray) (w : World) (hp : PredGrows prog g lb p w) :
 Calls prog 169 #[.string s, .func (.func g) #[] lb] w fun e w' => e = .returned (.int .i64 (Lib.idxFunc p true s)) ∧ Below w.heap.size w w' := Any.strings_IndexFunc_grows Tryz.laysGw15 g lb eg p s w hp
end Go.Proofs
namespace Go.Proofs.YtdaihdknnlphkaaGreatDoor
open Go.RowKit
open Tryz
theorem kY (l : List UInt8) (w : World) : Calls prog 144 #[str l, str [32]] w fun e w' => e = .returned (str (N7 l)) ∧ w = w' := by
 refine (Tryz.strings_TrimLeft_one ⟨l.toArray⟩ 32 (by decide) w).mono ?_
 rintro e w' ⟨rfl, rfl⟩
 exact ⟨rfl, rfl⟩
def NS (l : List UInt8) : Int × Bool := match Lib.parseIntB 64 l with
 | .ok v => (v, true)
 | .range => (Lib.intSat 64 l, false)
 | _ => (0, false)
def fO (w : World) : Prop := (∃ t p, w.cell? ⟨2, 0, none⟩ = some (.iface t p)) ∧ ∃ t p, w.cell? ⟨3, 0, none⟩ = some (.iface t p)
def yJ (ok : Bool) (v : Value) : Prop := (ok = true ∧ v = .nilIface) ∨ (ok = false ∧ ∃ t p, v = .iface t (.pointer p))
theorem rL (l : List UInt8) (w : World) (hl : l.length ≤ 281474976710656) (hE : fO w) : Calls prog 171 #[str l, .int .i64 10, .int .i64 64] w fun e w' => ∃ v, e = .returned (.tuple #[.int .i64 (NS l).1, v]) ∧ yJ (NS l).2 v ∧ Fr0 w w' := by
 have hs : (ByteArray.mk l.toArray).size = l.length := by show l.toArray.size = _; simp
 have hd : (ByteArray.mk l.toArray).data.toList = l := rfl
 obtain ⟨⟨t, p, h1⟩, t', p', h2⟩ := hE
 cases hq : Lib.parseIntB 64 l with
 | ok v =>
  refine (Tryz.strconv_ParseInt_10_at64_ok ⟨l.toArray⟩ (by omega) v (by rw [hd]; exact hq) w).mono ?_
  rintro e w' ⟨rfl, hw⟩
  refine ⟨.nilIface, by unfold NS; rw [hq], .inl ⟨by unfold NS; rw [hq], rfl⟩, ?_⟩
  rcases hw with rfl | ⟨t, rfl⟩
  ·exact Fr.refl
  ·exact Fr.ofBelow (Lib.bytesWorld_below w _ t)
 | range =>
  refine (Tryz.strconv_ParseInt_10_at64_range ⟨l.toArray⟩ (by omega) (by rw [hd]; exact hq) _ w h2 (.inr ⟨t', p', rfl⟩)).mono ?_
  rintro e w' ⟨N, rfl, _, _, hb⟩
  exact ⟨_, by unfold NS; rw [hq, hd], .inr ⟨by unfold NS; rw [hq], _, _, rfl⟩, Fr.ofBelow hb⟩
 | _ =>
  refine (Tryz.strconv_ParseInt_10_at64_syntax ⟨l.toArray⟩ (by omega) (by rw [hd]; exact hq) _ w h1 (.inr ⟨t, p, rfl⟩)).mono ?_
  rintro e w' ⟨N, rfl, _, _, hb⟩
  exact ⟨_, by unfold NS; rw [hq], .inr ⟨by unfold NS; rw [hq], _, _, rfl⟩, Fr.ofBelow hb⟩
theorem kH {e : Env} {w : World} {o : Oper} {t' : Nat} {x : Operand} {v : Value} {ok : Bool} (ho : o.op = .binOp .neq 193 x (.const .nilIface) t') (hx : ev e x = some v) (hv : yJ ok v) : Y prog e o w (.bool (!ok)) := fun ρ h => by
 have hc : ρ (.const .nilIface) = .nilIface := h _ _ rfl
 rcases hv with ⟨rfl, rfl⟩ | ⟨rfl, t, p, rfl⟩
 ·have h1 : (Op.equal 193 .nilIface .nilIface).run prog w = .ok true w := by
   unfold Op.equal Op.maxDepth Op.equalIn
   simp [run_underlying underlying193]
  unfold execOp
  simp [ho, h _ _ hx, hc, eqGuard_nil_constR, binOp, h1]
 ·have h1 : (Op.equal 193 (.iface t (.pointer p)) .nilIface).run prog w = .ok false w := by
   unfold Op.equal Op.maxDepth Op.equalIn
   simp [run_underlying underlying193]
  unfold execOp
  simp [ho, h _ _ hx, hc, eqGuard_at_iface, binOp, h1]
def MH (is : UInt8 → Bool) (x : Nat) : Bool := decide (127 < x) || !(is (UInt8.ofNat x))
theorem lH (is : UInt8 → Bool) (x : Nat) : (decide ((127 : Int) < (x : Int)) || (!(is (UInt8.ofNat x)))) = MH is x := by
 unfold MH
 by_cases h : 127 < x
 ·simp [h, show (127 : Int) < (x : Int) by omega]
 ·simp [h, show ¬ (127 : Int) < (x : Int) by omega]
theorem q8 {x : Nat} : (IntKind.u8).wrap (x : Int) = ((UInt8.ofNat x).toNat : Int) := by
 simp [IntKind.wrap, IntKind.bits, IntKind.signed]
def KM (is : UInt8 → Bool) (l : List UInt8) : Int := Lib.idxFunc (MH is) true ⟨l.toArray⟩
def spanP (is : UInt8 → Bool) (l : List UInt8) : Nat := if KM is l < 0 then l.length else (KM is l).toNat
theorem lK (is : UInt8 → Bool) (l : List UInt8) : KM is l < l.length := by
 have h := Lib.idxFuncFrom_range (MH is) true ⟨l.toArray⟩ (ByteArray.mk l.toArray).size 0
 have hs : (ByteArray.mk l.toArray).size = l.length := by show l.toArray.size = _; simp
 rcases h with h | ⟨_, h⟩
 ·unfold KM Lib.idxFunc; rw [h]; omega
 ·unfold KM Lib.idxFunc; omega
theorem NN (is : UInt8 → Bool) (l : List UInt8) : spanP is l ≤ l.length := by
 unfold spanP; have := lK is l; split <;> omega
theorem lI {is : UInt8 → Bool} {l : List UInt8} (h : KM is l < 0) : spanP is l = l.length := if_pos h
theorem lJ {is : UInt8 → Bool} {l : List UInt8} (h : ¬ KM is l < 0) : KM is l = ((spanP is l : Nat) : Int) := by
 unfold spanP; rw [if_neg h]; omega
theorem lL (is : UInt8 → Bool) (g : FuncId) (hfn : ∀ (ar : Array Value) (w : World), (callFunc g ar).run prog w = .ok (.enter g ar) w) (hc : ∀ (b : UInt8) (w : World), Calls prog g #[.int .u8 (b.toNat : Int)] w fun e w' => e = .returned (.bool (is b)) ∧ Fr0 w w') (x : Nat) (g3 : Nat) (w : World) (hb : Blk w g3 171 [.func (.func g) #[] #[]]) :
 Calls prog 170 #[.int .i32 (x : Int), pg g3] w fun e w' => e = .returned (.bool (MH is x)) ∧ Fr0 w w' := by
 refine AJ (vs := [_, _]) func170 rfl ntmps170 rfl ?_
 have M := CN w
 refine A9 (A0 (yb rfl (A4 (A5 (A9 (A0 (yb rfl (ya rfl (FF rfl rfl rfl) (yb rfl (AX 6 [(3, .bool false), (12, .bool ((decide ((127 : Int) < (x : Int))) || (!(is (UInt8.ofNat x)))))] (fun w' => Mem w AD [] w') ?_ (fun k6 => ?_)))))))))))
 ·intro w1 M
  exact yb rfl (A4 (A5 (AF (AK rfl rfl ⟨by rw [lH], M.fr⟩))))
 refine AM (d := 6) (b := (decide ((127 : Int) < (x : Int)))) rfl (fun h6 => ?_) (fun h6 => ?_)
 ·iterate 5 refine yo rfl ?_
  exact yb rfl (k6 _ _ M ⟨rfl, (by rw [h6]; rfl), trivial⟩)
 ·refine ym rfl rfl (Blk.c (hb.fr0 M.fr) 0 rfl) (yd rfl (yp rfl) (yd rfl (fS (r := ((UInt8.ofNat x).toNat : Int)) rfl rfl underlying21 underlying5 q8) (CF (some 10) (AW rfl rfl rfl) rfl rfl (BK rfl rfl rfl hfn) (hc _ _) ?_)))
  rintro _ w2 ⟨rfl, hfw2⟩
  refine ⟨_, rfl, ?_⟩
  have M := M.step hfw2
  exact yd rfl (yp rfl) (yb rfl (k6 _ _ M ⟨rfl, (by rw [h6]; rfl), trivial⟩))
theorem wG (is : UInt8 → Bool) (g : FuncId) (hfn : ∀ (ar : Array Value) (w : World), (callFunc g ar).run prog w = .ok (.enter g ar) w) (hc : ∀ (b : UInt8) (w : World), Calls prog g #[.int .u8 (b.toNat : Int)] w fun e w' => e = .returned (.bool (is b)) ∧ Fr0 w w') (l : List UInt8) (g3 : Nat) (w : World) (hb : Blk w g3 171 [.func (.func g) #[] #[]]) :
 Calls prog 169 #[str l, .func (.func 170) #[] #[.pointer (some ⟨g3, 0, none⟩)]] w fun e w' => e = .returned (.int .i64 (KM is l)) ∧ Fr0 w w' := by
 refine (Tryz.strings_IndexFunc_grows 170 #[.pointer (some ⟨g3, 0, none⟩)] call170 (MH is) ⟨l.toArray⟩ w ?_).mono ?_
 ·intro W x _ hbW
  exact (lL is g hfn hc x g3 W (hb.fr0 (Fr.ofBelow hbW))).mono fun _ _ ⟨h1, h2⟩ => ⟨h1, h2.below⟩
 ·rintro e w' ⟨rfl, hb'⟩
  exact ⟨rfl, Fr.ofBelow hb'⟩
theorem dC (is : UInt8 → Bool) (g : FuncId) (hfn : ∀ (ar : Array Value) (w : World), (callFunc g ar).run prog w = .ok (.enter g ar) w) (hc : ∀ (b : UInt8) (w : World), Calls prog g #[.int .u8 (b.toNat : Int)] w fun e w' => e = .returned (.bool (is b)) ∧ Fr0 w w') (l : List UInt8) (w : World) :
 Calls prog 146 #[str l, .func (.func g) #[] #[]] w fun e w' => e = .returned (.int .i64 ((spanP is l : Nat) : Int)) ∧ Fr0 w w' := by
 refine AJ (vs := [_, _]) func146 rfl ntmps146 rfl ?_
 have M := CN w
 refine A9 (A0 (B4 M (AA rfl) rfl rfl 171 rfl rfl ([.func (.func g) #[] #[]]) rfl fun g3 w1 hg3 M => yb rfl (A4 (A5 (A9 (A0 (yb rfl (ya rfl (CC (us := []) (vs := [pg g3]) rfl rfl rfl) (cp M 8 rfl (AE rfl rfl call169) (wG is g hfn hc l _ _ (M.blk 0 rfl)) fun w9 M => yb rfl (A4 (A5 (A9 ?_))))))))))))
 refine A9 (A0 (yb rfl (ya rfl (CB rfl rfl rfl) (A4 (A5 (AT (b := (decide ((KM is l) < (0 : Int)))) rfl (fun h10 => ?_) (fun h10 => ?_)))))))
 ·have h10p := (odt h10)
  exact A9 (A0 (yb rfl (ya rfl (E3 rfl rfl underlying9) (yb rfl (A4 (A5 (AF (AB (AK rfl rfl ⟨by rw [lI h10p], M.fr⟩)))))))))
 ·have h10p := (odf h10)
  exact AN (A5 (A9 (A0 (yb rfl (yb rfl (A4 (A5 (AF (AK rfl rfl ⟨by rw [lJ h10p], M.fr⟩)))))))))
def nGlob : Nat := max (max 0 1) (max 2 3) + 1
structure Lay0 (w : World) : Prop where
 utf : Laid w utfL
 err : fO w
 size : nGlob ≤ w.heap.size
theorem YA : (Nat.blt 0 nGlob && (Nat.blt 1 nGlob && (Nat.blt 2 nGlob && Nat.blt 3 nGlob))) = true := by kernel_rfl
theorem Lay0.fr {S : Nat → Prop} {w w' : World} (h : Lay0 w) (hf : Fr S w w') (hS : ∀ k, S k → nGlob ≤ k) : Lay0 w' := by
 have hn := YA
 simp only [Bool.and_eq_true] at hn
 obtain ⟨n1, n2, n3, n4⟩ := hn
 replace n1 := AZ n1
 replace n2 := AZ n2
 replace n3 := AZ n3
 replace n4 := AZ n4
 have no : ∀ g, g < nGlob → ¬ S g := fun g hg hs => by have := hS g hs; omega
 refine ⟨fun p hp => ?_, ?_, Nat.le_trans h.size hf.size⟩
 ·obtain ⟨el, fz, h1⟩ := h.utf p hp
  have hp1 : p.1 < nGlob := by
   simp only [utfL, List.mem_cons, List.not_mem_nil, or_false] at hp
   rcases hp with rfl | rfl
   ·exact n1
   ·exact n2
  exact ⟨el, fz, (hf.block _ (Array.getElem?_eq_some_iff.1 h1).1 (no _ hp1)).trans h1⟩
 ·obtain ⟨t, p, h1⟩ := h.err.1
  obtain ⟨t', p', h2⟩ := h.err.2
  exact ⟨⟨t, p, (hf.cell (World.block_lt_of_cell? w _ h1) (no _ n3)).trans h1⟩, t', p', (hf.cell (World.block_lt_of_cell? w _ h2) (no _ n4)).trans h2⟩
theorem Q0 {l : List UInt8} {c : UInt8} (h : l[0]? = some c) : l.headD 0 = c := by cases l <;> simp_all
theorem UN {a b : Prop} (h : ¬ a ∨ ¬ b) : ¬ (a ∧ b) := fun ⟨h1, h2⟩ => h.elim (fun h => h h1) (fun h => h h2)
def GL (t : List UInt8) (x : Lx) : Lx :=
 if ((t.headD 0).toNat : Int) = 48 ∧ (1 : Int) < ((t.length : Nat) : Int) then x.fail 4 x.at_
 else if (NS t).2 = true then { x with nd := .lit ⟨1, (NS t).1, false, []⟩ }
 else { (x.fail 91 x.at_) with nd := .lit ⟨1, (NS t).1, false, []⟩ }
def qt : List UInt8 → List UInt8 → Option (List UInt8 × Nat)
 | _, [] => none
 | b, [c] => if (c.toNat : Int) = 39 then some (b, 0) else none
 | b, c :: d :: r => if (c.toNat : Int) = 39 then (if (d.toNat : Int) = 39 then qt (b ++ [d]) r else some (b, r.length + 1)) else qt (b ++ [c]) (d :: r)
theorem lZ {l b : List UInt8} {i : Nat} {c : UInt8} (hc : l[i]? = some c) (h : ¬ (c.toNat : Int) = 39) : qt b (l.drop i) = qt (b ++ [c]) (l.drop (i + 1)) := by
 rw [BH hc]
 cases l.drop (i + 1) with
 | nil => rw [show qt b [c] = if (c.toNat : Int) = 39 then some (b, 0) else none from rfl, if_neg h]; rfl
 | cons d r => rw [qt, if_neg h]
theorem lY {l b : List UInt8} {i : Nat} {c d : UInt8} (hc : l[i]? = some c) (hd : l[i + 1]? = some d) (h : (c.toNat : Int) = 39) (h2 : (d.toNat : Int) = 39) : qt b (l.drop i) = qt (b ++ [d]) (l.drop (i + 2)) := by
 rw [BH hc, BH hd, qt, if_pos h, if_pos h2]
theorem m6 {l b : List UInt8} {i : Nat} {c : UInt8} (hc : l[i]? = some c) (h : (c.toNat : Int) = 39) (he : ((i + 1 : Nat) : Int) = ((l.length : Nat) : Int)) : qt b (l.drop i) = some (b, l.length - (i + 1)) := by
 have he' : i + 1 = l.length := by omega
 rw [BH hc, he', List.drop_length, qt, if_pos h, Nat.sub_self]
theorem dJ {l b : List UInt8} {i : Nat} {c d : UInt8} (hc : l[i]? = some c) (hd : l[i + 1]? = some d) (h : (c.toNat : Int) = 39) (h2 : ¬ (d.toNat : Int) = 39) : qt b (l.drop i) = some (b, l.length - (i + 1)) := by
 have hlt := (List.getElem?_eq_some_iff.1 hd).1
 rw [BH hc, BH hd, qt, if_pos h, if_neg h2]
 congr 2
 rw [List.length_drop]; omega
def HI (l : List UInt8) (x : Lx) : Lx := match qt [] l.tail with
 | some (b, k) => if utf b = true then { x with nd := .lit ⟨3, 0, false, b⟩, at_ := x.at_ + (l.length - k) } else x.fail 4 x.at_
 | none => x.fail 4 x.at_
theorem XO {l b : List UInt8} {x : Lx} {i : Nat} (hi : i ≤ l.length) (h : qt [] l.tail = some (b, l.length - i)) (hu : utf b = true) : HI l x = { x with nd := .lit ⟨3, 0, false, b⟩, at_ := x.at_ + i } := by
 unfold HI
 rw [h]
 simp only [if_pos hu]
 congr 2; omega
theorem UD {l b : List UInt8} {x : Lx} {k : Nat} (h : qt [] l.tail = some (b, k)) (hu : utf b = false) : HI l x = x.fail 4 x.at_ := by
 unfold HI
 rw [h]
 simp [hu]
theorem l0 {l : List UInt8} {x : Lx} (h : qt [] l.tail = none) : HI l x = x.fail 4 x.at_ := by
 unfold HI
 rw [h]
theorem TG {T e : TypeId} {B b : Nat} {bs : List Value} {W W' : World} (h : Lib.IsBuilderF T e B b bs W) (hb : Below W.heap.size W W') : Lib.IsBuilderF T e B b bs W' :=
 have one : ∀ {p : Value}, Lib.BuilderAtF T e B b p bs W → Lib.BuilderAtF T e B b p bs W' := fun h => by
  have hlt := h.lt
  obtain ⟨hB, v, hv, hown, hne⟩ := h
  exact ⟨hB, v, (hb.block b hlt).trans hv, hown.kept (row := none) ⟨hb.os, hb.tape, hb.output, hb.size, fun k hk _ => hb.block k hk⟩ (Classical.em _), hne⟩
 h.elim (fun x => .inl (one x)) (fun x => .inr (one x))
theorem j2 {w : World} {B g : Nat} (hB : B ≤ g) (hb : Blk w g 198 [.pointer none, .slice none 0 0]) : Lib.IsBuilder 198 5 B g (bvs []) w :=
 .inl ⟨hB, .slice none 0 0, hb, ⟨rfl, .inl ⟨rfl, rfl⟩⟩, by simp [Value.ownBlock]⟩
theorem Mem.belowOld {w w1 w2 : World} {S : Nat → Prop} {g t : Nat} {cs : List Value} (M : Mem w S [As.blk g t cs] w1) (hg : g < w.heap.size) (hb : Below w.heap.size w1 w2) : Mem w S [As.blk g t cs] w2 where
 fr := ⟨hb.os.trans M.fr.os, hb.tape.trans M.fr.tape, hb.output.trans M.fr.output, Nat.le_trans M.fr.size hb.size, fun k hk hn => (hb.block k hk).trans (M.fr.block k hk hn)⟩
 ok i a hi := by
  cases i with
  | zero =>
   simp only [List.getElem?_cons_zero, Option.some.injEq] at hi; subst hi
   exact (hb.block g hg).trans (M.blk 0 rfl)
  | succ i => simp at hi
 lt i a hi k hk := by
  obtain ⟨h1, h2⟩ := M.lt i a hi k hk
  exact ⟨Nat.lt_of_lt_of_le h1 hb.size, h2⟩
 apart := M.apart
theorem K2 (a0 : Int) (a1 : Int) : prog.built 95 [(0, .int .u8 a0), (1, .int .i64 a1)] = some #[.int .u8 a0, .int .i64 a1, .bool false, str []] := by kernel_rfl
theorem K1 (a0 : Int) (a3 : List UInt8) : prog.built 95 [(0, .int .u8 a0), (3, str a3)] = some #[.int .u8 a0, .int .i64 0, .bool false, str a3] := by kernel_rfl
theorem MU : (prog.info? 198).map (·.zero) = some (some (.agg #[.pointer none, .slice none 0 0])) := by kernel_rfl
theorem mW (s : List UInt8) (x : Lx) (gx : Nat) (t : List UInt8) (w : World) (hb : Blk w gx 142 (Lx.cells s x)) (ht : 0 < t.length) (hl : t.length ≤ 281474976710656) (hY : Lay0 w) (hgx : nGlob ≤ gx) :
 Calls prog 147 #[pg gx, str t] w fun e w' => e = .returned (.tuple #[]) ∧ Blk w' gx 142 (Lx.cells s (GL t x)) ∧ Fr (fun k => k = gx) w w' := by
 have hGx : ∀ k, k = gx → nGlob ≤ k := fun _ e => e ▸ hgx
 refine AJ (vs := [_, _]) func147 rfl ntmps147 rfl ?_
 have M : Mem w (fun k => k = gx) [As.blk gx 142 (Lx.cells s x)] w := Mem.one hb
 refine A9 (A9 (A0 (yb rfl ?_)))
 obtain ⟨c, hc⟩ := DA (l := t) (i := 0) (by omega)
 refine ya rfl (FJ rfl rfl rfl underlying9 hc) (ya rfl (BB rfl rfl rfl) (yb rfl (AX 4 [(1, str t), (0, pg gx), (13, .bool ((decide ((c.toNat : Int) = (48 : Int))) && (decide ((1 : Int) < ((t.length : Nat) : Int)))))] (fun w' => Mem w (fun k => k = gx) [As.blk gx 142 (Lx.cells s x)] w') ?_ (fun k9 => ?_))))
 ·intro w1 M
  refine A4 (A5 (AT (b := ((decide ((c.toNat : Int) = (48 : Int))) && (decide ((1 : Int) < ((t.length : Nat) : Int))))) rfl (fun h13 => ?_) (fun h13 => ?_)))
  ·have h13p := (And.intro (odt (C9 h13).1) (odt (C9 h13).2))
   refine A9 (A0 ?_)
   iterate 4 refine yb rfl ?_
   refine yl rfl rfl (M.cell 0 rfl rfl) (cl 19 rfl (AE rfl rfl call125) (EC s x _ _ _ _ (M.blk 0 rfl)) ?_)
   rintro _ w2 ⟨rfl, hbw2, hfw2⟩
   have M := M.putB 0 rfl hbw2 hfw2
   exact ⟨_, rfl, A4 (A5 (AF (AB (C3 (Or.inl rfl) rfl ⟨rfl, by rw [GL, Q0 hc, if_pos h13p]; exact M.blk 0 rfl, M.fr⟩))))⟩
  ·have h13p := ((EH h13).imp (fun z => (odf z)) (fun z => (odf z)))
   refine AN (A5 (A9 (A0 (yb rfl (cl 22 rfl (AE rfl rfl call171) (rL t _ (by omega) (hY.fr M.fr hGx).err) ?_)))))
   rintro _ w3 ⟨er, rfl, her, hfw3⟩
   refine ⟨_, rfl, ?_⟩
   have M := M.step hfw3
   iterate 5 refine yb rfl ?_
   refine A4 (A5 (A9 (A9 (A0 (yb rfl (ya rfl (kH rfl rfl her) (A4 (A5 (AT (b := (!(NS t).2)) rfl (fun h26 => ?_) (fun h26 => ?_))))))))))
   ·refine A0 ?_
    iterate 4 refine yb rfl ?_
    refine yl rfl rfl (M.cell 0 rfl rfl) (cl 32 rfl (AE rfl rfl call125) (EC s x _ _ _ _ (M.blk 0 rfl)) ?_)
    rintro _ w4 ⟨rfl, hbw4, hfw4⟩
    have M := M.putB 0 rfl hbw4 hfw4
    exact ⟨_, rfl, A4 (A5 (A0 (yb rfl (yb rfl (ya rfl (BU (parts := [(0, _), (1, _)]) rfl rfl (K2 _ _)) (ya rfl (BU (parts := [(0, _), (1, _)]) rfl rfl (EE _ _ _ _ _)) (yb rfl (yb rfl (yb rfl (B8 (cs' := [str s, .int .i64 (((x.fail 91 x.at_).at_ : Nat) : Int), .int .u8 1, .int .u8 1, .int .i64 ((NS t).1), .bool false, str [], str [], .slice none 0 0, str ((x.fail 91 x.at_).say), .int .i64 (((x.fail 91 x.at_).tat : Nat) : Int), .bool ((x.fail 91 x.at_).fin), .int .i64 ((x.fail 91 x.at_).e), .int .i64 (((x.fail 91 x.at_).wh : Nat) : Int)]) M 0 (AA rfl) rfl rfl rfl rfl rfl AR rfl (AI rfl) (AY rfl) rfl fun w5 M => A4 (C3 (Or.inr rfl) rfl ⟨rfl, by rw [GL, Q0 hc, if_neg (UN h13p), if_neg (BE (C4 h26))]; exact M.blk 0 rfl, M.fr⟩)))))))))))⟩
   ·exact AN (A5 (A0 (yb rfl (yb rfl (ya rfl (BU (parts := [(0, _), (1, _)]) rfl rfl (K2 _ _)) (ya rfl (BU (parts := [(0, _), (1, _)]) rfl rfl (EE _ _ _ _ _)) (yb rfl (yb rfl (yb rfl (B8 (cs' := [str s, .int .i64 ((x.at_ : Nat) : Int), .int .u8 1, .int .u8 1, .int .i64 ((NS t).1), .bool false, str [], str [], .slice none 0 0, str x.say, .int .i64 ((x.tat : Nat) : Int), .bool x.fin, .int .i64 x.e, .int .i64 ((x.wh : Nat) : Int)]) M 0 (AA rfl) rfl rfl rfl rfl rfl AR rfl (AI rfl) (AY rfl) rfl fun w6 M => A4 (C3 (Or.inr rfl) rfl ⟨rfl, by rw [GL, Q0 hc, if_neg (UN h13p), if_pos (C5 h26)]; exact M.blk 0 rfl, M.fr⟩)))))))))))
 refine AM (d := 9) (b := (decide ((c.toNat : Int) = (48 : Int)))) rfl (fun h9 => ?_) (fun h9 => ?_)
 ·exact yd rfl (yp rfl) (yd rfl (E3 rfl rfl underlying9) (yd rfl (FF rfl rfl rfl) (yb rfl (k9 _ _ M ⟨rfl, rfl, (by rw [h9]; rfl), trivial⟩))))
 ·exact yo rfl (yo rfl (yo rfl (yb rfl (k9 _ _ M ⟨rfl, rfl, (by rw [h9]; rfl), trivial⟩))))
theorem iR (s : List UInt8) (x : Lx) (gx : Nat) (l : List UInt8) (w : World) (hb : Blk w gx 142 (Lx.cells s x)) (hn : 0 < l.length) (hl : l.length + x.at_ ≤ 70368744177664) (hY : Lay0 w) (hgx : nGlob ≤ gx) :
 Calls prog 151 #[.pointer (some ⟨gx, 0, none⟩), str l] w fun e w' => e = .returned (.tuple #[]) ∧ Blk w' gx 142 (Lx.cells s (HI l x)) ∧ Fr (fun k => k = gx) w w' := by
 have hGx : ∀ k, k = gx → nGlob ≤ k := fun _ e => e ▸ hgx
 have hlt : gx < w.heap.size := hb.lt
 refine AJ (vs := [_, _]) func151 rfl ntmps151 rfl ?_
 have M : Mem w (fun k => k = gx) [As.blk gx 142 (Lx.cells s x)] w := Mem.one hb
 refine A9 (A0 (BI M (AA rfl) rfl rfl 198 rfl [.pointer none, .slice none 0 0] MU rfl fun g4 w1 hg4 M => ?_))
 have hbu : Lib.IsBuilder 198 5 w.heap.size g4 (bvs []) w1 := j2 (by have := M.fr.size; omega) (M.blk 0 rfl)
 have M := M.drop 1
 replace M : Mem w (fun k => k = gx) [As.blk gx 142 (Lx.cells s x)] w1 := M
 refine A4 (A5 (A9 (A9 (A0 (yb rfl (A4 (A5 (AV (CL (fun e wr mz => ∃ (i : Nat) (b : List UInt8), e = [(0, .pointer (some ⟨gx, 0, none⟩)), (1, str l), (4, .pointer (some ⟨g4, 0, none⟩)), (5, .int .i64 ((i : Nat) : Int))] ∧ Mem w (fun k => k = gx) [As.blk gx 142 (Lx.cells s x)] wr ∧ (1 ≤ i ∧ i ≤ l.length) ∧ (b.length ≤ i) ∧ (Lib.IsBuilder 198 5 w.heap.size g4 (bvs b) wr) ∧ (qt [] l.tail = qt b (l.drop i)) ∧ mz = l.length - i) ⟨1, [], rfl, M, ⟨Nat.le_refl _, by omega⟩, Nat.zero_le _, hbu, by rw [List.drop_one], rfl⟩ ⟨rfl, rfl, rfl, rfl, trivial⟩ ?_)))))))))
 rintro _ w2 _ ⟨i, b, rfl, M, hi, hbl, hbu, hq, rfl⟩
 refine A9 (A9 (A0 (yb rfl (yb rfl (ya rfl (E3 rfl rfl underlying9) (ya rfl (CB rfl rfl rfl) (A4 (A5 (AT (b := (decide (((i : Nat) : Int) < ((l.length : Nat) : Int)))) rfl (fun h9 => ?_) (fun h9 => ?_))))))))))
 ·have h9p := (odt h9)
  refine AN (A5 (A9 (AV (A9 (A9 (A0 (yb rfl (yb rfl ?_))))))))
  obtain ⟨c, hc⟩ := DA (l := l) (i := i) (by omega)
  refine ya rfl (FJ rfl rfl rfl underlying9 hc) (ya rfl (BB rfl rfl rfl) (A4 (A5 (AT (b := (decide ((c.toNat : Int) = (39 : Int)))) rfl (fun h15 => ?_) (fun h15 => ?_)))))
  ·have h15p := (odt h15)
   refine A9 (A0 (yb rfl (ya rfl (CI rfl rfl rfl (by omega)) (yb rfl (A4 (A5 (A9 (A0 (yb rfl (yb rfl (ya rfl (E3 rfl rfl underlying9) (ya rfl (BB rfl rfl rfl) (yb rfl (AM (d := 22) (b := (decide (((i + 1 : Nat) : Int) = ((l.length : Nat) : Int)))) rfl (fun h22 => ?_) (fun h22 => ?_)))))))))))))))
   ·have h22p := (odt h22)
    iterate 4 refine yo rfl ?_
    refine yb rfl (A4 (A5 (DI rfl (A9 (A9 (A0 ?_))))))
    have hbf := Lib.IsBuilderF.of hbu
    refine cl 28 rfl (AE rfl rfl call172) (Tryz.Builder_String_any_f w.heap.size g4 b _ hbf M.fr.size) ?_
    rintro _ w3 ⟨rfl, hbf, hBw3⟩
    refine ⟨_, rfl, ?_⟩
    have M := M.belowOld hlt hBw3
    refine cl 29 rfl (AE rfl rfl call102) (K8 _ _ (by omega) (hY.fr M.fr hGx).utf) ?_
    rintro _ w4 ⟨rfl, hfw4⟩
    refine ⟨_, rfl, ?_⟩
    have M := M.step hfw4
    have hbf := TG hbf hfw4.below
    refine yb rfl (A4 (A5 (AT (b := (!(utf b))) rfl (fun h30 => ?_) (fun h30 => ?_))))
    ·have h30p := (C4 h30)
     refine C2 (AG (AG (JH rfl (AG (AG (B5 (A5 (A0 ?_))))))))
     iterate 4 refine yb rfl ?_
     refine yl rfl rfl (M.cell 0 rfl rfl) (cl 55 rfl (AE rfl rfl call125) (EC s x _ _ _ _ (M.blk 0 rfl)) ?_)
     rintro _ w5 ⟨rfl, hbw5, hfw5⟩
     have M := M.putB 0 rfl hbw5 hfw5
     exact ⟨_, rfl, A4 (C3 (Or.inr rfl) rfl ⟨rfl, by rw [UD (hq.trans (m6 hc h15p h22p)) h30p]; exact M.blk 0 rfl, M.fr⟩)⟩
    ·have h30p := (C5 h30)
     refine AN (A5 (A9 (A0 (yb rfl (cl 32 rfl (AE rfl rfl call172) (Tryz.Builder_String_any_f w.heap.size g4 b _ hbf M.fr.size) ?_)))))
     rintro _ w6 ⟨rfl, hbf, hBw6⟩
     refine ⟨_, rfl, ?_⟩
     have M := M.belowOld hlt hBw6
     refine ya rfl (BU (parts := [(0, _), (3, _)]) rfl rfl (K1 _ _)) (ya rfl (BU (parts := [(0, _), (1, _)]) rfl rfl (EE _ _ _ _ _)) (yb rfl (yb rfl (yb rfl (B8 (cs' := [str s, .int .i64 ((x.at_ : Nat) : Int), .int .u8 1, .int .u8 3, .int .i64 0, .bool false, str b, str [], .slice none 0 0, str x.say, .int .i64 ((x.tat : Nat) : Int), .bool x.fin, .int .i64 x.e, .int .i64 ((x.wh : Nat) : Int)]) M 0 (AA rfl) rfl rfl rfl rfl rfl AR rfl (AI rfl) (AY rfl) rfl fun w7 M => A4 (A5 (A9 (A0 (yb rfl (yb rfl (yb rfl (yl rfl rfl (M.cell 0 rfl rfl) (yb rfl ?_)))))))))))))
     exact ya rfl (CI rfl rfl rfl (by omega)) (yb rfl (yb rfl (BP (cs' := [str s, .int .i64 ((x.at_ + (i + 1) : Nat) : Int), .int .u8 1, .int .u8 3, .int .i64 0, .bool false, str b, str [], .slice none 0 0, str x.say, .int .i64 ((x.tat : Nat) : Int), .bool x.fin, .int .i64 x.e, .int .i64 ((x.wh : Nat) : Int)]) M 0 (AA rfl) rfl rfl rfl rfl rfl rfl rfl IG (AZ rfl) rfl fun w8 M => A4 (A5 (AF (AB (AL (AB (AB (AL (AB (C3 (Or.inl rfl) rfl ⟨rfl, by rw [XO (i := i + 1) (by omega) (hq.trans (m6 hc h15p h22p)) h30p]; exact M.blk 0 rfl, M.fr⟩))))))))))))
   ·have h22p := (odf h22)
    refine yd rfl (yp rfl) (yd rfl (yp rfl) ?_)
    obtain ⟨d, hd⟩ := DA (l := l) (i := i + 1) (by omega)
    refine yd rfl (FJ rfl rfl rfl underlying9 hd) (yd rfl (CX rfl rfl rfl) (yb rfl (A4 (A5 (AT (b := (!decide ((d.toNat : Int) = (39 : Int)))) rfl (fun h27 => ?_) (fun h27 => ?_))))))
    ·have h27p := (odf (C4 h27))
     refine A9 (A9 (A0 ?_))
     have hbf := Lib.IsBuilderF.of hbu
     refine cl 28 rfl (AE rfl rfl call172) (Tryz.Builder_String_any_f w.heap.size g4 b _ hbf M.fr.size) ?_
     rintro _ w9 ⟨rfl, hbf, hBw9⟩
     refine ⟨_, rfl, ?_⟩
     have M := M.belowOld hlt hBw9
     refine cl 29 rfl (AE rfl rfl call102) (K8 _ _ (by omega) (hY.fr M.fr hGx).utf) ?_
     rintro _ w10 ⟨rfl, hfw10⟩
     refine ⟨_, rfl, ?_⟩
     have M := M.step hfw10
     have hbf := TG hbf hfw10.below
     refine yb rfl (A4 (A5 (AT (b := (!(utf b))) rfl (fun h30 => ?_) (fun h30 => ?_))))
     ·have h30p := (C4 h30)
      refine C2 (AG (AG (JH rfl (AG (AG (B5 (A5 (A0 ?_))))))))
      iterate 4 refine yb rfl ?_
      refine yl rfl rfl (M.cell 0 rfl rfl) (cl 55 rfl (AE rfl rfl call125) (EC s x _ _ _ _ (M.blk 0 rfl)) ?_)
      rintro _ w11 ⟨rfl, hbw11, hfw11⟩
      have M := M.putB 0 rfl hbw11 hfw11
      exact ⟨_, rfl, A4 (C3 (Or.inr rfl) rfl ⟨rfl, by rw [UD (hq.trans (dJ hc hd h15p h27p)) h30p]; exact M.blk 0 rfl, M.fr⟩)⟩
     ·have h30p := (C5 h30)
      refine AN (A5 (A9 (A0 (yb rfl (cl 32 rfl (AE rfl rfl call172) (Tryz.Builder_String_any_f w.heap.size g4 b _ hbf M.fr.size) ?_)))))
      rintro _ w12 ⟨rfl, hbf, hBw12⟩
      refine ⟨_, rfl, ?_⟩
      have M := M.belowOld hlt hBw12
      refine ya rfl (BU (parts := [(0, _), (3, _)]) rfl rfl (K1 _ _)) (ya rfl (BU (parts := [(0, _), (1, _)]) rfl rfl (EE _ _ _ _ _)) (yb rfl (yb rfl (yb rfl (B8 (cs' := [str s, .int .i64 ((x.at_ : Nat) : Int), .int .u8 1, .int .u8 3, .int .i64 0, .bool false, str b, str [], .slice none 0 0, str x.say, .int .i64 ((x.tat : Nat) : Int), .bool x.fin, .int .i64 x.e, .int .i64 ((x.wh : Nat) : Int)]) M 0 (AA rfl) rfl rfl rfl rfl rfl AR rfl (AI rfl) (AY rfl) rfl fun w13 M => A4 (A5 (A9 (A0 (yb rfl (yb rfl (yb rfl (yl rfl rfl (M.cell 0 rfl rfl) (yb rfl ?_)))))))))))))
      exact ya rfl (CI rfl rfl rfl (by omega)) (yb rfl (yb rfl (BP (cs' := [str s, .int .i64 ((x.at_ + (i + 1) : Nat) : Int), .int .u8 1, .int .u8 3, .int .i64 0, .bool false, str b, str [], .slice none 0 0, str x.say, .int .i64 ((x.tat : Nat) : Int), .bool x.fin, .int .i64 x.e, .int .i64 ((x.wh : Nat) : Int)]) M 0 (AA rfl) rfl rfl rfl rfl rfl rfl rfl IG (AZ rfl) rfl fun w14 M => A4 (A5 (AF (AB (AL (AB (AB (AL (AB (C3 (Or.inl rfl) rfl ⟨rfl, by rw [XO (i := i + 1) (by omega) (hq.trans (dJ hc hd h15p h27p)) h30p]; exact M.blk 0 rfl, M.fr⟩))))))))))))
    ·have h27p := (odt (C5 h27))
     refine AN (A5 (A0 (yb rfl (yb rfl (ya rfl (FJ rfl rfl rfl underlying9 hd) (cl 49 rfl (AE rfl rfl call173) (NC w.heap.size g4 b d _ hbu (by omega) M.fr.size) ?_))))))
     rintro _ w15 ⟨rfl, hbu, hBw15⟩
     refine ⟨_, rfl, ?_⟩
     have M := M.belowOld hlt hBw15
     refine A4 (AC (A5 (A0 (yb rfl (ya rfl (CI rfl rfl rfl (by omega)) (yb rfl (A4 (BF [(0, .pointer (some ⟨gx, 0, none⟩)), (1, str l), (4, .pointer (some ⟨g4, 0, none⟩)), (5, .int .i64 (((i + 2) : Nat) : Int))] (l.length - (i + 2)) ⟨i + 2, (b ++ [d]), rfl, M, ?_, ?_, ?_, ?_, rfl⟩ (by first | omega | (simp <;> omega)) ⟨rfl, rfl, rfl, rfl, trivial⟩))))))))
     ·omega
     ·simp only [List.length_append, List.length_cons, List.length_nil]; omega
     ·exact hbu
     ·first
       | (rw [hq, lY hc hd h15p h27p])
       | (rw [hq, lZ hc h15p])
  ·have h15p := (odf h15)
   refine AN (A5 (A0 (yb rfl (yb rfl (ya rfl (FJ rfl rfl rfl underlying9 hc) (cl 49 rfl (AE rfl rfl call173) (NC w.heap.size g4 b c _ hbu (by omega) M.fr.size) ?_))))))
   rintro _ w16 ⟨rfl, hbu, hBw16⟩
   refine ⟨_, rfl, ?_⟩
   have M := M.belowOld hlt hBw16
   refine A4 (AC (A5 (A0 (yb rfl (ya rfl (CI rfl rfl rfl (by omega)) (yb rfl (A4 (BF [(0, .pointer (some ⟨gx, 0, none⟩)), (1, str l), (4, .pointer (some ⟨g4, 0, none⟩)), (5, .int .i64 (((i + 1) : Nat) : Int))] (l.length - (i + 1)) ⟨i + 1, (b ++ [c]), rfl, M, ?_, ?_, ?_, ?_, rfl⟩ (by first | omega | (simp <;> omega)) ⟨rfl, rfl, rfl, rfl, trivial⟩))))))))
   ·omega
   ·simp only [List.length_append, List.length_cons, List.length_nil]; omega
   ·exact hbu
   ·first
     | (rw [hq, lY hc hd h15p h27p])
     | (rw [hq, lZ hc h15p])
 ·have h9p := (odf h9)
  refine C2 (AG (AG (B5 (A5 (A0 ?_)))))
  iterate 4 refine yb rfl ?_
  refine yl rfl rfl (M.cell 0 rfl rfl) (cl 55 rfl (AE rfl rfl call125) (EC s x _ _ _ _ (M.blk 0 rfl)) ?_)
  rintro _ w17 ⟨rfl, hbw17, hfw17⟩
  have M := M.putB 0 rfl hbw17 hfw17
  refine ⟨_, rfl, A4 (C3 (Or.inr rfl) rfl ?_)⟩
  obtain rfl : i = l.length := by omega
  exact ⟨rfl, by rw [l0 (hq.trans (by rw [List.drop_length]; cases b <;> rfl))]; exact M.blk 0 rfl, M.fr⟩
end Go.Proofs.YtdaihdknnlphkaaGreatDoor
