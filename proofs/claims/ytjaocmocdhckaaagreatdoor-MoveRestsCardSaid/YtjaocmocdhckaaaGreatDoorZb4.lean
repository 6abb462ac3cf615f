/- Lemmas that the last text rests on. Condition: each says its own. -/
import Derived.Test.YtjaocmocdhckaaaGreatDoorZb3
import Derived.Shelf.Strings.BuilderF
import Derived.Shelf.Strings.Trim
import Derived.Shelf.Strings.FuncGrows
import Derived.Shelf.Strconv.ParseIntPublic10
set_option maxHeartbeats 16000000
set_option maxRecDepth 100000
namespace Go.Proofs.YtjaocmocdhckaaaGreatDoor
open Go.RowKit
open Tryz
def fY (p : UInt8 × Nat) : Value := .agg #[.int .u8 (p.1.toNat : Int), .int .i64 (p.2 : Int)]
def E5 : List (List UInt8 × Value) := signTab.map fun p => (p.1, fY p.2)
theorem PK (k : List UInt8) : ∀ l : List (List UInt8 × (UInt8 × Nat)), CU (l.map fun p => (p.1, fY p.2)) k = (VW l k).map fY
 | [] => rfl
 | (k', v) :: r => by
  rw [List.map_cons, CU, VW]
  by_cases h : k = k'
  ·rw [if_pos h, if_pos h]; rfl
  ·rw [if_neg h, if_neg h]; exact PK k r
theorem FD (k : List UInt8) : (CU E5 k).getD (.agg #[.int .u8 0, .int .i64 0]) = .agg #[.int .u8 (((AW k).getD (0, 0)).1.toNat : Int), .int .i64 ((((AW k).getD (0, 0)).2 : Nat) : Int)] := by
 unfold E5 AW
 rw [PK]
 cases VW signTab k <;> rfl
theorem HR (k : List UInt8) : (CU E5 k).isSome = (AW k).isSome := by
 unfold E5 AW
 rw [PK]
 cases VW signTab k <;> rfl
theorem iR (v : List UInt8) : ([[97, 110, 100], [111, 114], [110, 111, 116], [116, 114, 117, 101], [102, 97, 108, 115, 101]].any (fun z => decide (v = z))) = K0 v := by
 simp only [List.any_cons, List.any_nil, K0, Bool.or_false, Bool.or_assoc]
theorem PW (a0 : Int) (a2 : Bool) : prog.built 45 [(0, .int .u8 a0), (2, .bool a2)] = some #[.int .u8 a0, .int .i64 0, .bool a2, str []] := by kernel_rfl
theorem FU (a0 : Int) (c1_0 c1_1 c1_2 c1_3 : Value) : prog.built 75 [(0, .int .u8 a0), (1, .agg #[c1_0, c1_1, c1_2, c1_3])] = some #[.int .u8 a0, c1_0, c1_1, c1_2, c1_3, str [], .slice none 0 0] := by kernel_rfl
theorem PV (a0 : Int) (a2 : List UInt8) : prog.built 75 [(0, .int .u8 a0), (2, str a2)] = some #[.int .u8 a0, .int .u8 0, .int .i64 0, .bool false, str [], str a2, .slice none 0 0] := by kernel_rfl
theorem CY (a0 : Int) (a1 : Int) : prog.built 116 [(0, .int .u8 a0), (1, .int .i64 a1)] = some #[.int .u8 a0, .int .i64 a1] := by kernel_rfl
theorem KR : (prog.info? 33).map (·.size) = some 1 := by kernel_rfl
theorem GQ : (prog.info? 280).map (·.size) = some 1 := by kernel_rfl
theorem G5 : (prog.info? 9).map (·.size) = some 1 := by kernel_rfl
theorem FT (s : List UInt8) (x : Lx) (gx : Nat) (er : Int) (p : Nat) (w : World) (hb : Blk w gx 110 (Lx.cells s x)) :
 Calls prog 54 #[.pointer (some ⟨gx, 0, none⟩), .int .i64 er, .int .i64 (p : Int)] w fun e w' => e = .returned (.tuple #[]) ∧ Blk w' gx 110 (Lx.cells s (x.fail er p)) ∧ Fr (fun k => k = gx) w w' := by
 refine BE (vs := [_, _, _]) func54 rfl ntmps54 rfl ?_
 have M : Mem w (fun k => k = gx) [As.blk gx 110 (Lx.cells s x)] w := Mem.one hb
 refine srg (yb rfl (yb rfl (yb rfl (yl rfl rfl (M.cell 0 rfl rfl) (ya rfl (BZ rfl rfl rfl) (nq (AL (b := (decide (x.e = (0 : Int)))) rfl (fun h10 => ?_) (fun h10 => ?_))))))))
 ·have h10p := (odt h10)
  refine AK ?_
  iterate 6 refine yb rfl ?_
  exact D0 (cs' := [str s, .int .i64 ((x.at_ : Nat) : Int), .int .u8 (x.nd.op.toNat : Int), .int .u8 (x.nd.vl.kind.toNat : Int), .int .i64 x.nd.vl.int, .bool x.nd.vl.bool, str x.nd.vl.text, str x.nd.nm, .slice none 0 0, str x.say, .int .i64 ((x.tat : Nat) : Int), .bool x.fin, .int .i64 er, .int .i64 ((x.wh : Nat) : Int)]) M 0 (AA rfl) rfl rfl rfl rfl rfl rfl rfl KR (CO rfl) rfl fun w1 M => yb rfl (yb rfl (D0 (cs' := [str s, .int .i64 ((x.at_ : Nat) : Int), .int .u8 (x.nd.op.toNat : Int), .int .u8 (x.nd.vl.kind.toNat : Int), .int .i64 x.nd.vl.int, .bool x.nd.vl.bool, str x.nd.vl.text, str x.nd.nm, .slice none 0 0, str x.say, .int .i64 ((x.tat : Nat) : Int), .bool x.fin, .int .i64 er, .int .i64 ((p : Nat) : Int)]) M 0 (AA rfl) rfl rfl rfl rfl rfl rfl rfl GQ (CO rfl) rfl fun w2 M => AR (CM (Or.inr rfl) rfl ⟨rfl, by rw [Lx.fail, if_pos h10p]; exact M.blk 0 rfl, M.fr⟩)))
 ·have h10p := (odf h10)
  exact AI (CM (Or.inr rfl) rfl ⟨rfl, by rw [Lx.fail, if_neg h10p]; exact M.blk 0 rfl, M.fr⟩)
theorem S7 (b : UInt8) (w : World) : Calls prog 107 #[.int .u8 (b.toNat : Int)] w fun e w' => e = .returned (.bool (D2 b)) ∧ Fr0 w w' := by
 refine BE (vs := [_]) func107 rfl ntmps107 rfl ?_
 have M := NP w
 refine srg (yb rfl (nq (srg (yb rfl (ya rfl (FQ rfl rfl rfl) (yb rfl (DI 3 [(2, .bool false), (8, .bool ((decide ((48 : Int) ≤ (b.toNat : Int))) && (decide ((b.toNat : Int) ≤ (57 : Int)))))] (fun w' => Mem w B0 [] w') ?_ (fun k5 => ?_))))))))
 ·intro w1 M
  exact yb rfl (nq (BN (CQ rfl rfl ⟨rfl, M.fr⟩)))
 refine AO (d := 5) (b := (decide ((48 : Int) ≤ (b.toNat : Int)))) rfl (fun h5 => ?_) (fun h5 => ?_)
 ·exact yd rfl (yp rfl) (yd rfl (GP rfl rfl rfl) (yb rfl (k5 _ _ M ⟨rfl, (by rw [h5]; rfl), trivial⟩)))
 ·exact yo rfl (yo rfl (yb rfl (k5 _ _ M ⟨rfl, (by rw [h5]; rfl), trivial⟩)))
theorem TO (b : UInt8) (w : World) : Calls prog 110 #[.int .u8 (b.toNat : Int)] w fun e w' => e = .returned (.bool (EX b)) ∧ Fr0 w w' := by
 refine BE (vs := [_]) func110 rfl ntmps110 rfl ?_
 have M := NP w
 refine srg (yb rfl (nq (srg (yb rfl (ya rfl (oR (b := b) (c := 32) rfl rfl rfl) (ya rfl (FQ rfl rfl rfl) (yb rfl (DI 4 [(2, .bool false), (10, .bool ((decide ((97 : Int) ≤ ((b ||| 32).toNat : Int))) && (decide (((b ||| 32).toNat : Int) ≤ (122 : Int)))))] (fun w' => Mem w B0 [] w') ?_ (fun k6 => ?_)))))))))
 ·intro w1 M
  exact yb rfl (nq (BN (CQ rfl rfl ⟨rfl, M.fr⟩)))
 refine AO (d := 6) (b := (decide ((97 : Int) ≤ ((b ||| 32).toNat : Int)))) rfl (fun h6 => ?_) (fun h6 => ?_)
 ·exact yd rfl (yp rfl) (yd rfl (oR (b := b) (c := 32) rfl rfl rfl) (yd rfl (GP rfl rfl rfl) (yb rfl (k6 _ _ M ⟨rfl, (by rw [h6]; rfl), trivial⟩))))
 ·exact yo rfl (yo rfl (yo rfl (yb rfl (k6 _ _ M ⟨rfl, (by rw [h6]; rfl), trivial⟩))))
theorem cU (b : UInt8) (w : World) : Calls prog 111 #[.int .u8 (b.toNat : Int)] w fun e w' => e = .returned (.bool (DK b)) ∧ Fr0 w w' := by
 refine BE (vs := [_]) func111 rfl ntmps111 rfl ?_
 have M := NP w
 refine srg (yb rfl (nq (srg (yb rfl (B3 (some 4) (AA rfl) rfl rfl (AP rfl rfl call110) (TO _ _) ?_)))))
 rintro _ w1 ⟨rfl, hfw1⟩
 refine ⟨_, rfl, ?_⟩
 have M := M.step hfw1
 refine yb rfl (DI 3 [(0, .int .u8 (b.toNat : Int)), (2, .bool false), (8, .bool ((EX b) || (D2 b)))] (fun w' => Mem w B0 [] w') ?_ (fun k5 => ?_))
 ·intro w2 M
  refine yb rfl (DI 3 [(0, .int .u8 (b.toNat : Int)), (2, .bool false), (12, .bool (((EX b) || (D2 b)) || (decide ((b.toNat : Int) = (45 : Int)))))] (fun w' => Mem w B0 [] w') ?_ (fun k9 => ?_))
  ·intro w3 M
   refine yb rfl (DI 3 [(0, .int .u8 (b.toNat : Int)), (2, .bool false), (16, .bool ((((EX b) || (D2 b)) || (decide ((b.toNat : Int) = (45 : Int)))) || (decide ((b.toNat : Int) = (95 : Int)))))] (fun w' => Mem w B0 [] w') ?_ (fun k13 => ?_))
   ·intro w4 M
    refine yb rfl (DI 3 [(2, .bool false), (20, .bool (((((EX b) || (D2 b)) || (decide ((b.toNat : Int) = (45 : Int)))) || (decide ((b.toNat : Int) = (95 : Int)))) || (decide ((b.toNat : Int) = (46 : Int)))))] (fun w' => Mem w B0 [] w') ?_ (fun k17 => ?_))
    ·intro w5 M
     exact yb rfl (nq (BN (CQ rfl rfl ⟨rfl, M.fr⟩)))
    refine AO (d := 17) (b := ((((EX b) || (D2 b)) || (decide ((b.toNat : Int) = (45 : Int)))) || (decide ((b.toNat : Int) = (95 : Int))))) rfl (fun h17 => ?_) (fun h17 => ?_)
    ·exact yo rfl (yo rfl (yb rfl (k17 _ _ M ⟨rfl, (by rw [h17]; rfl), trivial⟩)))
    ·exact yd rfl (yp rfl) (yd rfl (BZ rfl rfl rfl) (yb rfl (k17 _ _ M ⟨rfl, (by rw [h17]; rfl), trivial⟩)))
   refine AO (d := 13) (b := (((EX b) || (D2 b)) || (decide ((b.toNat : Int) = (45 : Int))))) rfl (fun h13 => ?_) (fun h13 => ?_)
   ·exact yo rfl (yo rfl (yb rfl (k13 _ _ M ⟨rfl, rfl, (by rw [h13]; rfl), trivial⟩)))
   ·exact yd rfl (yp rfl) (yd rfl (BZ rfl rfl rfl) (yb rfl (k13 _ _ M ⟨rfl, rfl, (by rw [h13]; rfl), trivial⟩)))
  refine AO (d := 9) (b := ((EX b) || (D2 b))) rfl (fun h9 => ?_) (fun h9 => ?_)
  ·exact yo rfl (yo rfl (yb rfl (k9 _ _ M ⟨rfl, rfl, (by rw [h9]; rfl), trivial⟩)))
  ·exact yd rfl (yp rfl) (yd rfl (BZ rfl rfl rfl) (yb rfl (k9 _ _ M ⟨rfl, rfl, (by rw [h9]; rfl), trivial⟩)))
 refine AO (d := 5) (b := (EX b)) rfl (fun h5 => ?_) (fun h5 => ?_)
 ·exact yo rfl (yo rfl (yb rfl (k5 _ _ M ⟨rfl, rfl, (by rw [h5]; rfl), trivial⟩)))
 ·refine yd rfl (yp rfl) (B3 (some 7) (BG rfl rfl rfl) rfl rfl (AP rfl rfl call107) (S7 _ _) ?_)
  rintro _ w6 ⟨rfl, hfw6⟩
  refine ⟨_, rfl, ?_⟩
  have M := M.step hfw6
  exact yb rfl (k5 _ _ M ⟨rfl, rfl, (by rw [h5]; rfl), trivial⟩)
theorem nS (A : Option Addr) (c : Nat) (l : List (List UInt8)) (v : List UInt8) (w : World) (hl : l.length ≤ 4611686018427387904) (hR : Rd w A (l.length * 1) (AH BY l)) :
 Calls prog 114 #[.slice A l.length c, str v] w fun e w' => e = .returned (.int .i64 (ixJ (fun _ z => decide (v = z)) 0 l)) ∧ Fr0 w w' := by
 refine BE (vs := [_, _]) func114 rfl ntmps114 rfl ?_
 have M := NP w
 refine srg (yb rfl (nq (AF (srg (yb rfl (ya rfl (C3 rfl rfl (sl rfl)) (yb rfl (nq (AS (G0 (fun e wr mz => ∃ (i : Nat), e = [(0, .slice A l.length c), (1, str v), (7, .int .i64 ((l.length : Nat) : Int)), (8, .int .i64 ((i : Nat) : Int))] ∧ Mem w B0 [] wr ∧ (i ≤ l.length) ∧ (ixJ (fun _ z => decide (v = z)) 0 l = ixJ (fun _ z => decide (v = z)) i (l.drop i)) ∧ mz = l.length - i) ⟨0, rfl, M, Nat.zero_le _, rfl, rfl⟩ ⟨rfl, rfl, rfl, rfl, trivial⟩ ?_))))))))))
 rintro _ w1 _ ⟨i, rfl, M, hi, hr, rfl⟩
 refine srg (ya rfl (ED rfl rfl rfl) (nq (AF (AL (b := (decide (((i : Nat) : Int) < ((l.length : Nat) : Int)))) rfl (fun h9 => ?_) (fun h9 => ?_)))))
 ·have h9p := (odt h9)
  refine AI (AD (AF (AS (srg (yb rfl (yb rfl (nq (srg (yb rfl (yb rfl (yb rfl ?_)))))))))))
  obtain ⟨x, hx⟩ := CC (l := l) (i := i) (by omega)
  obtain ⟨b_x, o_x, hA_x⟩ := BI (k := 1) (by omega) (hR.fr0 M.fr) hx
  refine ya rfl (B1 i hA_x rfl rfl rfl (sl rfl) (by omega)) (yl rfl rfl (DQ E0 (hR.fr0 M.fr) hA_x hx 0 rfl) (ya rfl (DM rfl rfl rfl) (nq (AL (b := (decide (v = x))) rfl (fun h16 => ?_) (fun h16 => ?_)))))
  ·have h16p := (odt h16)
   exact srg (yb rfl (yb rfl (nq (BN (AN (AB (AB (AN (AB (CQ rfl rfl ⟨by rw [hr, B7 hx, ixJ, if_pos h16], M.fr⟩))))))))))
  ·have h16p := (odf h16)
   refine AI (AE (AD (AK (ya rfl (BO rfl rfl rfl (by omega)) (yb rfl (AR (FH [(0, .slice A l.length c), (1, str v), (7, .int .i64 ((l.length : Nat) : Int)), (8, .int .i64 (((i + 1) : Nat) : Int))] (l.length - (i + 1)) ⟨i + 1, rfl, M, ?_, ?_, rfl⟩ (by first | omega | (simp only [List.length_append, List.length_cons, List.length_nil]; omega)) ⟨rfl, rfl, rfl, rfl, trivial⟩)))))))
   ·omega
   ·rw [hr, B7 hx, ixJ, if_neg (I2 h16)]
 ·have h9p := (odf h9)
  refine BF (AG (AG (AV (AD (srg (yb rfl (nq (BN (CQ rfl rfl ?_)))))))))
  obtain rfl : i = l.length := by omega
  exact ⟨by rw [hr, List.drop_length]; rfl, M.fr⟩
theorem S8 (A : Option Addr) (c : Nat) (l : List (List UInt8)) (v : List UInt8) (w : World) (hl : l.length ≤ 4611686018427387904) (hR : Rd w A (l.length * 1) (AH BY l)) :
 Calls prog 59 #[.slice A l.length c, str v] w fun e w' => e = .returned (.bool (l.any (fun z => decide (v = z)))) ∧ Fr0 w w' := by
 refine BE (vs := [_, _]) func59 rfl ntmps59 rfl ?_
 have M := NP w
 refine srg (yb rfl (nq (srg (yb rfl (yb rfl (B3 (some 7) (AA rfl) rfl rfl (AP rfl rfl call114) (nS _ _ l _ _ (by first | omega | decide) (hR.fr0 M.fr)) ?_))))))
 rintro _ w1 ⟨rfl, hfw1⟩
 refine ⟨_, rfl, ?_⟩
 have M := M.step hfw1
 exact ya rfl (FQ rfl rfl rfl) (yb rfl (nq (BN (CQ rfl rfl ⟨by rw [JS], M.fr⟩))))
theorem II (w : World) :
 Calls prog 58 #[] w fun e w' => ∃ g, e = .returned (.map (some g)) ∧ Mp w' g E5 ∧ w.heap.size ≤ g ∧ Fr0 w w' := by
 refine BE (vs := []) func58 rfl ntmps58 rfl ?_
 have M := NP w
 refine srg (yb rfl (nq (srg (ID M (AA rfl) rfl rfl rfl fun g1 w1 hg1 M => ya rfl (BA (parts := [(0, _), (1, _)]) rfl rfl (CY _ _)) (EG M 0 (AA rfl) rfl rfl rfl rfl rfl underlying118 underlying9 rfl fun w2 M => ya rfl (BA (parts := [(0, _), (1, _)]) rfl rfl (CY _ _)) (EG M 0 (AA rfl) rfl rfl rfl rfl rfl underlying118 underlying9 rfl fun w3 M => ya rfl (BA (parts := [(0, _), (1, _)]) rfl rfl (CY _ _)) ?_))))))
 refine EG M 0 (AA rfl) rfl rfl rfl rfl rfl underlying118 underlying9 rfl fun w4 M => ya rfl (BA (parts := [(0, _), (1, _)]) rfl rfl (CY _ _)) (EG M 0 (AA rfl) rfl rfl rfl rfl rfl underlying118 underlying9 rfl fun w5 M => ya rfl (BA (parts := [(0, _), (1, _)]) rfl rfl (CY _ _)) (EG M 0 (AA rfl) rfl rfl rfl rfl rfl underlying118 underlying9 rfl fun w6 M => ya rfl (BA (parts := [(0, _), (1, _)]) rfl rfl (CY _ _)) (EG M 0 (AA rfl) rfl rfl rfl rfl rfl underlying118 underlying9 rfl fun w7 M => ya rfl (BA (parts := [(0, _), (1, _)]) rfl rfl (CY _ _)) (EG M 0 (AA rfl) rfl rfl rfl rfl rfl underlying118 underlying9 rfl fun w8 M => ya rfl (BA (parts := [(0, _), (1, _)]) rfl rfl (CY _ _)) (EG M 0 (AA rfl) rfl rfl rfl rfl rfl underlying118 underlying9 rfl ?_)))))
 intro w9 M
 refine ya rfl (BA (parts := [(0, _), (1, _)]) rfl rfl (CY _ _)) (EG M 0 (AA rfl) rfl rfl rfl rfl rfl underlying118 underlying9 rfl fun w10 M => ya rfl (BA (parts := [(0, _), (1, _)]) rfl rfl (CY _ _)) (EG M 0 (AA rfl) rfl rfl rfl rfl rfl underlying118 underlying9 rfl fun w11 M => ya rfl (BA (parts := [(0, _), (1, _)]) rfl rfl (CY _ _)) (EG M 0 (AA rfl) rfl rfl rfl rfl rfl underlying118 underlying9 rfl fun w12 M => ya rfl (BA (parts := [(0, _), (1, _)]) rfl rfl (CY _ _)) (EG M 0 (AA rfl) rfl rfl rfl rfl rfl underlying118 underlying9 rfl fun w13 M => ya rfl (BA (parts := [(0, _), (1, _)]) rfl rfl (CY _ _)) (EG M 0 (AA rfl) rfl rfl rfl rfl rfl underlying118 underlying9 rfl fun w14 M => yb rfl ?_)))))
 exact yb rfl (nq (BN (CQ rfl rfl ⟨_, rfl, M.mp 0 rfl, hg1, M.fr⟩)))
theorem OY (v : List UInt8) (w : World) :
 Calls prog 143 #[str v] w fun e w' => e = .returned (.bool (K0 v)) ∧ Fr0 w w' := by
 refine BE (vs := [_]) func143 rfl ntmps143 rfl ?_
 have M := NP w
 refine srg (yb rfl (nq (srg (DF M (AA rfl) rfl rfl [str [97, 110, 100], str [111, 114], str [110, 111, 116], str [116, 114, 117, 101], str [102, 97, 108, 115, 101]] ([str [97, 110, 100], str [111, 114], str [110, 111, 116], str [116, 114, 117, 101], str [102, 97, 108, 115, 101]]) rfl rfl rfl rfl underlying36 D1 rfl rfl (by intro v hv; simp only [List.mem_cons, List.not_mem_nil, or_false] at hv; rcases hv with rfl | rfl | rfl | rfl | rfl <;> rfl) rfl fun g3 w1 hg3 M => yb rfl (B3 (some 5) (AA rfl) rfl rfl (AP rfl rfl call59) (S8 _ _ [[97, 110, 100], [111, 114], [110, 111, 116], [116, 114, 117, 101], [102, 97, 108, 115, 101]] _ _ (by first | omega | decide) (M.rdBlk 0 rfl rfl)) ?_)))))
 rintro _ w2 ⟨rfl, hfw2⟩
 refine ⟨_, rfl, ?_⟩
 have M := M.step hfw2
 exact yb rfl (nq (BN (CQ rfl rfl ⟨by rw [iR], M.fr⟩)))
def FM (t : List UInt8) (x : Lx) : Lx := (if ((decide (t = [116, 114, 117, 101])) || (decide (t = [102, 97, 108, 115, 101]))) = true then (⟨x.at_, .lit ⟨2, 0, (decide (t = [116, 114, 117, 101])), []⟩, x.say, x.tat, x.fin, x.e, x.wh⟩ : Lx) else (if (K0 t) = true then (⟨x.at_, x.nd, t, x.tat, x.fin, x.e, x.wh⟩ : Lx) else (if (!(CT t)) = true then (x.fail 4 x.at_) else (⟨x.at_, .var t, x.say, x.tat, x.fin, x.e, x.wh⟩ : Lx))))
theorem cJ (s : List UInt8) (x : Lx) (gx : Nat) (t : List UInt8) (w : World) (hb : Blk w gx 110 (Lx.cells s x)) (ht : (t.length : Int) < 4611686018427387904) :
 Calls prog 112 #[.pointer (some ⟨gx, 0, none⟩), str t] w fun e w' => e = .returned (.tuple #[]) ∧ Blk w' gx 110 (Lx.cells s (FM t x)) ∧ Fr (fun k => k = gx) w w' := by
 refine BE (vs := [_, _]) func112 rfl ntmps112 rfl ?_
 have M : Mem w (fun k => k = gx) [As.blk gx 110 (Lx.cells s x)] w := Mem.one hb
 refine AS (srg (yb rfl (ya rfl (DM rfl rfl rfl) (yb rfl (DI 3 [(1, str t), (0, .pointer (some ⟨gx, 0, none⟩)), (16, .bool ((decide (t = [116, 114, 117, 101])) || (decide (t = [102, 97, 108, 115, 101]))))] (fun w' => Mem w (fun k => k = gx) [As.blk gx 110 (Lx.cells s x)] w') ?_ (fun k13 => ?_))))))
 ·intro w1 M
  refine yb rfl (nq (AL (b := ((decide (t = [116, 114, 117, 101])) || (decide (t = [102, 97, 108, 115, 101])))) rfl (fun h10 => ?_) (fun h10 => ?_)))
  ·have h10p := ((EO h10).imp (fun z => (odt z)) (fun z => (odt z)))
   exact AK (yb rfl (yb rfl (ya rfl (DM rfl rfl rfl) (ya rfl (BA (parts := [(0, _), (2, _)]) rfl rfl (PW _ _)) (ya rfl (BA (parts := [(0, _), (1, _)]) rfl rfl (FU _ _ _ _ _)) (yb rfl (yb rfl (yb rfl (D7 (cs' := [str s, .int .i64 ((x.at_ : Nat) : Int), .int .u8 1, .int .u8 2, .int .i64 0, .bool (decide (t = [116, 114, 117, 101])), str [], str [], .slice none 0 0, str x.say, .int .i64 ((x.tat : Nat) : Int), .bool x.fin, .int .i64 x.e, .int .i64 ((x.wh : Nat) : Int)]) M 0 (AA rfl) rfl rfl rfl rfl rfl AZ rfl (BS rfl) (BP rfl) rfl fun w2 M => AR (AE (CM (Or.inr rfl) rfl ⟨rfl, by rw [FM, if_pos h10]; exact M.blk 0 rfl, M.fr⟩)))))))))))
  ·have h10p := (And.intro (odf (CP h10).1) (odf (CP h10).2))
   refine srg (yb rfl (B3 (some 27) (AA rfl) rfl rfl (AP rfl rfl call143) (OY _ _) ?_))
   rintro _ w3 ⟨rfl, hfw3⟩
   refine ⟨_, rfl, ?_⟩
   have M := M.step hfw3
   refine yb rfl (nq (AL (b := (K0 t)) rfl (fun h25 => ?_) (fun h25 => ?_)))
   ·refine AK ?_
    iterate 5 refine yb rfl ?_
    exact D0 (cs' := [str s, .int .i64 ((x.at_ : Nat) : Int), .int .u8 (x.nd.op.toNat : Int), .int .u8 (x.nd.vl.kind.toNat : Int), .int .i64 x.nd.vl.int, .bool x.nd.vl.bool, str x.nd.vl.text, str x.nd.nm, .slice none 0 0, str t, .int .i64 ((x.tat : Nat) : Int), .bool x.fin, .int .i64 x.e, .int .i64 ((x.wh : Nat) : Int)]) M 0 (AA rfl) rfl rfl rfl rfl rfl rfl rfl G5 (CO rfl) rfl fun w4 M => AR (AE (CM (Or.inr rfl) rfl ⟨rfl, by rw [FM, if_neg (I2 h10), if_pos h25]; exact M.blk 0 rfl, M.fr⟩))
   ·refine srg (yb rfl (B3 (some 35) (AA rfl) rfl rfl (AP rfl rfl call67) (EI _ _ (by omega)) ?_))
    rintro _ w5 ⟨rfl, hfw5⟩
    refine ⟨_, rfl, ?_⟩
    have M := M.step hfw5
    refine yb rfl (yb rfl (nq (AL (b := (!(CT t))) rfl (fun h33 => ?_) (fun h33 => ?_))))
    ·have h33p := (CK h33)
     refine AK ?_
     iterate 4 refine yb rfl ?_
     refine yl rfl rfl (M.cell 0 rfl rfl) (B3 (some 42) (AA rfl) rfl rfl (AP rfl rfl call54) (FT s _ _ _ _ _ (M.blk 0 rfl)) ?_)
     rintro _ w6 ⟨rfl, hbw6, hfw6⟩
     have M := M.putB 0 rfl hbw6 hfw6
     exact ⟨_, rfl, AR (AE (CM (Or.inr rfl) rfl ⟨rfl, by rw [FM, if_neg (I2 h10), if_neg (I2 h25), if_pos h33]; exact M.blk 0 rfl, M.fr⟩))⟩
    ·have h33p := (BQ h33)
     exact AK (yb rfl (yb rfl (ya rfl (BA (parts := [(0, _), (2, _)]) rfl rfl (PV _ _)) (yb rfl (yb rfl (yb rfl (D7 (cs' := [str s, .int .i64 ((x.at_ : Nat) : Int), .int .u8 2, .int .u8 0, .int .i64 0, .bool false, str [], str t, .slice none 0 0, str x.say, .int .i64 ((x.tat : Nat) : Int), .bool x.fin, .int .i64 x.e, .int .i64 ((x.wh : Nat) : Int)]) M 0 (AA rfl) rfl rfl rfl rfl rfl AZ rfl (BS rfl) (BP rfl) rfl fun w7 M => AR (AE (CM (Or.inr rfl) rfl ⟨rfl, by rw [FM, if_neg (I2 h10), if_neg (I2 h25), if_neg (I2 h33)]; exact M.blk 0 rfl, M.fr⟩)))))))))
 refine AO (d := 13) (b := (decide (t = [116, 114, 117, 101]))) rfl (fun h13 => ?_) (fun h13 => ?_)
 ·exact yo rfl (yo rfl (yb rfl (k13 _ _ M ⟨rfl, rfl, (by rw [h13]; rfl), trivial⟩)))
 ·exact yd rfl (yp rfl) (yd rfl (DM rfl rfl rfl) (yb rfl (k13 _ _ M ⟨rfl, rfl, (by rw [h13]; rfl), trivial⟩)))
end Go.Proofs.YtjaocmocdhckaaaGreatDoor
namespace Go.Proofs
open Go.Shelf
def Tryz.lays169_ren : Go.Shelf.Ren := ⟨fun | 169 => 144 | n => n, fun | 70 => 195 | 9 => 9 | 0 => 0 | 72 => 198 | 37 => 196 | 127 => 210 | 3 => 3 | 5 => 5 | n => n, fun | n => n⟩
theorem Tryz.lays169 : Go.Proofs.Lays.n169 prog Tryz.lays169_ren := {
 mixed := by kernel_rfl
 f169 := func144.trans (congrArg some (by kernel_rfl))
 t0 := underlying0
 a0 := isAgg0
 z0 := sizeOf0
 v0 := zeroValue0
 t3 := underlying3
 a3 := isAgg3
 z3 := sizeOf3
 v3 := zeroValue3
 t9 := underlying9
 a9 := isAgg9
 z9 := sizeOf9
 v9 := zeroValue9
 t37 := underlying196
 a37 := isAgg196
 z37 := sizeOf196
 v37 := zeroValue196
 t70 := underlying195
 a70 := isAgg195
 z70 := sizeOf195
 v70 := zeroValue195
 t72 := underlying198
 a72 := isAgg198
 z72 := sizeOf198
 v72 := zeroValue198
 t127 := underlying210
 a127 := isAgg210
 z127 := sizeOf210
 v127 := zeroValue210 }
theorem Tryz.Builder_Extra_169 : Builder.Extra prog Tryz.lays169_ren := {
 sizeBuilder := by kernel_rfl
 liesBuilder := by kernel_rfl
 t5 := underlying5
 a5 := isAgg5
 z5 := sizeOf5
 v5 := zeroValue5
 infoByte := by kernel_rfl
 cellsByte := by kernel_rfl
 sizeByte := by kernel_rfl
 neB5 := by decide }
def Tryz.lays161_ren : Go.Shelf.Ren := ⟨fun | 161 => 106 | 231 => 136 | 227 => 137 | 233 => 138 | 235 => 139 | 228 => 157 | 197 => 158 | 151 => 159 | 260 => 180 | 152 => 181 | 137 => 195 | 119 => 196 | 224 => 197 | 225 => 198 | 217 => 218 | 266 => 227 | n => n, fun | 9 => 9 | 4 => 4 | 3 => 3 | 5 => 5 | 117 => 185 | 116 => 184 | 0 => 0 | 124 => 188 | 105 => 205 | 21 => 21 | 119 => 176 | 46 => 225 | 139 => 224 | 138 => 223 | n => n, fun | 3 => 0 | 4 => 1 | n => n⟩
theorem Tryz.lays161 : Go.Proofs.Lays.n161 prog Tryz.lays161_ren := {
 mixed := by kernel_rfl
 f119 := func196.trans (congrArg some (by kernel_rfl))
 f137 := func195.trans (congrArg some (by kernel_rfl))
 f151 := func159.trans (congrArg some (by kernel_rfl))
 f152 := func181.trans (congrArg some (by kernel_rfl))
 f161 := func106.trans (congrArg some (by kernel_rfl))
 f197 := func158.trans (congrArg some (by kernel_rfl))
 f217 := func218.trans (congrArg some (by kernel_rfl))
 f224 := func197.trans (congrArg some (by kernel_rfl))
 f225 := func198.trans (congrArg some (by kernel_rfl))
 f227 := func137.trans (congrArg some (by kernel_rfl))
 f228 := func157.trans (congrArg some (by kernel_rfl))
 f231 := func136.trans (congrArg some (by kernel_rfl))
 f233 := func138.trans (congrArg some (by kernel_rfl))
 f235 := func139.trans (congrArg some (by kernel_rfl))
 f260 := func180.trans (congrArg some (by kernel_rfl))
 f266 := func227.trans (congrArg some (by kernel_rfl))
 t0 := underlying0
 a0 := isAgg0
 z0 := sizeOf0
 v0 := zeroValue0
 t3 := underlying3
 a3 := isAgg3
 z3 := sizeOf3
 v3 := zeroValue3
 t4 := underlying4
 a4 := isAgg4
 z4 := sizeOf4
 v4 := zeroValue4
 t5 := underlying5
 a5 := isAgg5
 z5 := sizeOf5
 v5 := zeroValue5
 t9 := underlying9
 a9 := isAgg9
 z9 := sizeOf9
 v9 := zeroValue9
 t21 := underlying21
 a21 := isAgg21
 z21 := sizeOf21
 v21 := zeroValue21
 t46 := underlying225
 a46 := isAgg225
 z46 := sizeOf225
 v46 := zeroValue225
 t105 := underlying205
 a105 := isAgg205
 z105 := sizeOf205
 v105 := zeroValue205
 t116 := underlying184
 a116 := isAgg184
 z116 := sizeOf184
 t117 := underlying185
 a117 := isAgg185
 z117 := sizeOf185
 v117 := zeroValue185
 t119 := underlying176
 a119 := isAgg176
 z119 := sizeOf176
 t124 := underlying188
 a124 := isAgg188
 z124 := sizeOf188
 v124 := zeroValue188
 t138 := underlying223
 a138 := isAgg223
 z138 := sizeOf223
 v138 := zeroValue223
 t139 := underlying224
 a139 := isAgg224
 z139 := sizeOf224
 v139 := zeroValue224
 g3 := by kernel_rfl
 g4 := by kernel_rfl }
open Go.RowKit in
theorem Tryz.strings_TrimLeft_one (s : ByteArray) (c : UInt8) (hc : c.toNat < 128) (w : World) :
 Calls prog 106 #[.string s, .string ⟨#[c]⟩] w fun e w' => e = .returned (.string ⟨(Lib.trimLeftB s.data.toList c).toArray⟩) ∧ w' = w := Any.strings_TrimLeft_one Tryz.lays161 s c hc w
open Go.RowKit in
theorem Tryz.Builder_String_any_f (B b : Nat) (l : List UInt8) (w : World) (h : Lib.IsBuilderF 198 5 B b (Lib.byteCells l) w) (hBw : B ≤ w.heap.size) :
 Calls prog 144 #[.pointer (some ⟨b, 0, none⟩)] w fun e w' => e = .returned (.string ⟨l.toArray⟩) ∧ (Lib.IsBuilderF 198 5 B b (Lib.byteCells l) w' ∧ Below B w w') := Any.Builder_String_any_f Tryz.lays169 Tryz.Builder_Extra_169 B b l w h hBw
def Tryz.laysC174_ren : Go.Shelf.Ren := ⟨fun | 174 => 142 | 247 => 161 | 245 => 162 | 287 => 182 | 279 => 183 | 280 => 184 | 281 => 185 | 282 => 186 | 321 => 199 | 322 => 200 | 316 => 201 | 171 => 203 | 205 => 202 | 243 => 219 | 246 => 228 | 283 => 244 | 284 => 245 | 285 => 246 | 286 => 247 | 129 => 216 | 317 => 255 | 318 => 256 | 319 => 257 | 320 => 258 | 337 => 260 | 338 => 261 | n => n, fun | 9 => 9 | 3 => 3 | 2 => 2 | 75 => 192 | 85 => 193 | 4 => 4 | 167 => 230 | 5 => 5 | 53 => 231 | 175 => 232 | 46 => 225 | 168 => 234 | 37 => 196 | 0 => 0 | 210 => 251 | 21 => 21 | 127 => 210 | 145 => 269 | 143 => 267 | 171 => 291 | 173 => 293 | 212 => 303 | 51 => 265 | 20 => 20 | 213 => 304 | 232 => 310 | 233 => 311 | 80 => 199 | n => n, fun | 15 => 2 | 16 => 3 | 17 => 5 | 18 => 6 | 19 => 7 | n => n⟩
theorem Tryz.laysC174 : Go.Proofs.LaysC.n174 prog Tryz.laysC174_ren := {
 mixed := by kernel_rfl
 f129 := func216.trans (congrArg some (by kernel_rfl))
 f171 := func203.trans (congrArg some (by kernel_rfl))
 f174 := func142.trans (congrArg some (by kernel_rfl))
 f205 := func202.trans (congrArg some (by kernel_rfl))
 f243 := func219.trans (congrArg some (by kernel_rfl))
 f245 := func162.trans (congrArg some (by kernel_rfl))
 f246 := func228.trans (congrArg some (by kernel_rfl))
 f247 := func161.trans (congrArg some (by kernel_rfl))
 f279 := func183.trans (congrArg some (by kernel_rfl))
 f280 := func184.trans (congrArg some (by kernel_rfl))
 f281 := func185.trans (congrArg some (by kernel_rfl))
 f282 := func186.trans (congrArg some (by kernel_rfl))
 f283 := func244.trans (congrArg some (by kernel_rfl))
 f284 := func245.trans (congrArg some (by kernel_rfl))
 f285 := func246.trans (congrArg some (by kernel_rfl))
 f286 := func247.trans (congrArg some (by kernel_rfl))
 f287 := func182.trans (congrArg some (by kernel_rfl))
 f316 := func201.trans (congrArg some (by kernel_rfl))
 f317 := func255.trans (congrArg some (by kernel_rfl))
 f318 := func256.trans (congrArg some (by kernel_rfl))
 f319 := func257.trans (congrArg some (by kernel_rfl))
 f320 := func258.trans (congrArg some (by kernel_rfl))
 f321 := func199.trans (congrArg some (by kernel_rfl))
 f322 := func200.trans (congrArg some (by kernel_rfl))
 f337 := func260.trans (congrArg some (by kernel_rfl))
 f338 := func261.trans (congrArg some (by kernel_rfl))
 t0 := underlying0
 a0 := isAgg0
 z0 := sizeOf0
 v0 := zeroValue0
 t2 := underlying2
 a2 := isAgg2
 z2 := sizeOf2
 v2 := zeroValue2
 t3 := underlying3
 a3 := isAgg3
 z3 := sizeOf3
 v3 := zeroValue3
 t4 := underlying4
 a4 := isAgg4
 z4 := sizeOf4
 v4 := zeroValue4
 t5 := underlying5
 a5 := isAgg5
 z5 := sizeOf5
 v5 := zeroValue5
 t9 := underlying9
 a9 := isAgg9
 z9 := sizeOf9
 v9 := zeroValue9
 t20 := underlying20
 a20 := isAgg20
 z20 := sizeOf20
 v20 := zeroValue20
 t21 := underlying21
 a21 := isAgg21
 z21 := sizeOf21
 v21 := zeroValue21
 t37 := underlying196
 a37 := isAgg196
 z37 := sizeOf196
 v37 := zeroValue196
 t46 := underlying225
 a46 := isAgg225
 z46 := sizeOf225
 v46 := zeroValue225
 t51 := underlying265
 a51 := isAgg265
 z51 := sizeOf265
 v51 := zeroValue265
 t53 := underlying231
 a53 := isAgg231
 z53 := sizeOf231
 v53 := zeroValue231
 t75 := underlying192
 a75 := isAgg192
 z75 := sizeOf192
 v75 := zeroValue192
 t85 := underlying193
 a85 := isAgg193
 z85 := sizeOf193
 v85 := zeroValue193
 t127 := underlying210
 a127 := isAgg210
 z127 := sizeOf210
 v127 := zeroValue210
 t143 := underlying267
 a143 := isAgg267
 z143 := sizeOf267
 v143 := zeroValue267
 t145 := underlying269
 a145 := isAgg269
 z145 := sizeOf269
 v145 := zeroValue269
 t167 := underlying230
 a167 := isAgg230
 z167 := sizeOf230
 v167 := zeroValue230
 t168 := underlying234
 a168 := isAgg234
 z168 := sizeOf234
 v168 := zeroValue234
 t171 := underlying291
 a171 := isAgg291
 z171 := sizeOf291
 v171 := zeroValue291
 t173 := underlying293
 a173 := isAgg293
 z173 := sizeOf293
 v173 := zeroValue293
 t175 := underlying232
 a175 := isAgg232
 z175 := sizeOf232
 v175 := zeroValue232
 t210 := underlying251
 a210 := isAgg251
 z210 := sizeOf251
 v210 := zeroValue251
 t212 := underlying303
 a212 := isAgg303
 z212 := sizeOf303
 v212 := zeroValue303
 t213 := underlying304
 a213 := isAgg304
 z213 := sizeOf304
 t232 := underlying310
 a232 := isAgg310
 z232 := sizeOf310
 v232 := zeroValue310
 t233 := underlying311
 a233 := isAgg311
 z233 := sizeOf311
 v233 := zeroValue311
 g15 := by kernel_rfl
 g16 := by kernel_rfl
 g17 := by kernel_rfl
 g18 := by kernel_rfl
 g19 := by kernel_rfl
 t80 := underlying199
 a80 := isAgg199
 z80 := sizeOf199
 v80 := zeroValue199
 i0 := by kernel_rfl
 i2 := by kernel_rfl
 i3 := by kernel_rfl
 i4 := by kernel_rfl
 i5 := by kernel_rfl
 i9 := by kernel_rfl
 i20 := by kernel_rfl
 i21 := by kernel_rfl
 i37 := by kernel_rfl
 i46 := by kernel_rfl
 i51 := by kernel_rfl
 i53 := by kernel_rfl
 i75 := by kernel_rfl
 i80 := by kernel_rfl
 i85 := by kernel_rfl
 i127 := by kernel_rfl
 i143 := by kernel_rfl
 i145 := by kernel_rfl
 i167 := by kernel_rfl
 i168 := by kernel_rfl
 i171 := by kernel_rfl
 i173 := by kernel_rfl
 i175 := by kernel_rfl
 i210 := by kernel_rfl
 i212 := by kernel_rfl
 i232 := by kernel_rfl
 i233 := by kernel_rfl
 m15 := by kernel_rfl
 m16 := by kernel_rfl
 m17 := by kernel_rfl
 m18 := by kernel_rfl
 m19 := by kernel_rfl
 c0 := by kernel_rfl
 c2 := by kernel_rfl
 c3 := by kernel_rfl
 c4 := by kernel_rfl
 c5 := by kernel_rfl
 c9 := by kernel_rfl
 c20 := by kernel_rfl
 c21 := by kernel_rfl
 c37 := by kernel_rfl
 c46 := by kernel_rfl
 c51 := by kernel_rfl
 c53 := by kernel_rfl
 c75 := by kernel_rfl
 c80 := by kernel_rfl
 c85 := by kernel_rfl
 c127 := by kernel_rfl
 c143 := by kernel_rfl
 c145 := by kernel_rfl
 c167 := by kernel_rfl
 c168 := by kernel_rfl
 c171 := by kernel_rfl
 c173 := by kernel_rfl
 c175 := by kernel_rfl
 c210 := by kernel_rfl
 c212 := by kernel_rfl
 c213 := by kernel_rfl
 c232 := by kernel_rfl
 c233 := by kernel_rfl }
open Go.RowKit in
theorem Tryz.strconv_ParseInt_10_at64_ok (s : ByteArray) (hmax : s.size ≤ 9223372036854775806) (v : Int) (h : Lib.parseIntB 64 s.data.toList = .ok v) (w : World) :
 Calls prog 142 #[.string s, .int .i64 10, .int .i64 64] w fun e w' => e = .returned (.tuple #[.int .i64 v, .nilIface]) ∧ (w' = w ∨ ∃ t, w' = Lib.bytesWorld w 5 t) := Any.strconv_ParseInt_10_at64_ok Tryz.laysC174 s hmax v h w
open Go.RowKit in
theorem Tryz.strconv_ParseInt_10_at64_syntax (s : ByteArray) (hlim : s.size ≤ 281474976710656) (h : Lib.parseIntB 64 s.data.toList = Lib.NumEnd.syntax) (ev : Value) (w : World) (hv : w.cell? ⟨2, 0, none⟩ = some ev) (hev : ev = .nilIface ∨ ∃ te pe, ev = .iface te pe) :
 Calls prog 142 #[.string s, .int .i64 10, .int .i64 64] w fun e w' => ∃ N, e = .returned (.tuple #[.int .i64 (0), .iface 234 (.pointer (some ⟨N, 0, none⟩))]) ∧ w.heap.size ≤ N ∧ w'.heap[N]? = some (.cells #[.string ⟨#[80, 97, 114, 115, 101, 73, 110, 116]⟩, .string s, ev] 251 (0, 0)) ∧ Below w.heap.size w w' := Any.strconv_ParseInt_10_at64_syntax Tryz.laysC174 s hlim h ev w hv hev
open Go.RowKit in
theorem Tryz.strconv_ParseInt_10_at64_range (s : ByteArray) (hlim : s.size ≤ 281474976710656) (h : Lib.parseIntB 64 s.data.toList = .range) (ev : Value) (w : World) (hv : w.cell? ⟨3, 0, none⟩ = some ev) (hev : ev = .nilIface ∨ ∃ te pe, ev = .iface te pe) :
 Calls prog 142 #[.string s, .int .i64 10, .int .i64 64] w fun e w' => ∃ N, e = .returned (.tuple #[.int .i64 (Lib.intSat 64 s.data.toList), .iface 234 (.pointer (some ⟨N, 0, none⟩))]) ∧ w.heap.size ≤ N ∧ w'.heap[N]? = some (.cells #[.string ⟨#[80, 97, 114, 115, 101, 73, 110, 116]⟩, .string s, ev] 251 (0, 0)) ∧ Below w.heap.size w w' := Any.strconv_ParseInt_10_at64_range Tryz.laysC174 s hlim h ev w hv hev
def Tryz.laysGw15_ren : Go.Shelf.Ren := ⟨fun | 15 => 140 | 20 => 160 | n => n, fun | 9 => 9 | 23 => 190 | 3 => 3 | 4 => 4 | 0 => 0 | 21 => 21 | n => n, fun | n => n⟩
theorem Tryz.laysGw15 : Go.Proofs.LaysGw.n15 prog Tryz.laysGw15_ren := {
 mixed := by kernel_rfl
 f15 := func140.trans (congrArg some (by kernel_rfl))
 f20 := func160.trans (congrArg some (by kernel_rfl))
 t0 := underlying0
 a0 := isAgg0
 z0 := sizeOf0
 v0 := zeroValue0
 i0 := by kernel_rfl
 t3 := underlying3
 a3 := isAgg3
 z3 := sizeOf3
 v3 := zeroValue3
 i3 := by kernel_rfl
 t4 := underlying4
 a4 := isAgg4
 z4 := sizeOf4
 v4 := zeroValue4
 i4 := by kernel_rfl
 t9 := underlying9
 a9 := isAgg9
 z9 := sizeOf9
 v9 := zeroValue9
 i9 := by kernel_rfl
 t21 := underlying21
 a21 := isAgg21
 z21 := sizeOf21
 v21 := zeroValue21
 i21 := by kernel_rfl
 t23 := underlying190
 a23 := isAgg190
 z23 := sizeOf190
 v23 := zeroValue190
 i23 := by kernel_rfl }
open Go.RowKit Go.Lib in
theorem Tryz.strings_IndexFunc_grows (g : Nat) (lb : Array Value) (eg : ∀ args w, (callFunc g args).run prog w = .ok (.enter g args) w) (p : Nat → Bool) (s : ByteArray) (w : World) (hp : PredGrows prog g lb p w) :
 Calls prog 140 #[.string s, .func (.func g) #[] lb] w fun e w' => e = .returned (.int .i64 (Lib.idxFunc p true s)) ∧ Below w.heap.size w w' := Any.strings_IndexFunc_grows Tryz.laysGw15 g lb eg p s w hp
end Go.Proofs
namespace Go.Proofs.YtjaocmocdhckaaaGreatDoor
open Go.RowKit
open Tryz
theorem eW (l : List UInt8) (w : World) : Calls prog 106 #[str l, str [32]] w fun e w' => e = .returned (str (NW l)) ∧ w = w' := by
 refine (Tryz.strings_TrimLeft_one ⟨l.toArray⟩ 32 (by decide) w).mono ?_
 rintro e w' ⟨rfl, rfl⟩
 exact ⟨rfl, rfl⟩
def OP (l : List UInt8) : Int × Bool := match Lib.parseIntB 64 l with
 | .ok v => (v, true)
 | .range => (Lib.intSat 64 l, false)
 | _ => (0, false)
def aT (w : World) : Prop := (∃ t p, w.cell? ⟨2, 0, none⟩ = some (.iface t p)) ∧ ∃ t p, w.cell? ⟨3, 0, none⟩ = some (.iface t p)
def s6 (ok : Bool) (v : Value) : Prop := (ok = true ∧ v = .nilIface) ∨ (ok = false ∧ ∃ t p, v = .iface t (.pointer p))
theorem mP (l : List UInt8) (w : World) (hl : l.length ≤ 281474976710656) (hE : aT w) : Calls prog 142 #[str l, .int .i64 10, .int .i64 64] w fun e w' => ∃ v, e = .returned (.tuple #[.int .i64 (OP l).1, v]) ∧ s6 (OP l).2 v ∧ Fr0 w w' := by
 have hs : (ByteArray.mk l.toArray).size = l.length := by show l.toArray.size = _; simp
 have hd : (ByteArray.mk l.toArray).data.toList = l := rfl
 obtain ⟨⟨t, p, h1⟩, t', p', h2⟩ := hE
 cases hq : Lib.parseIntB 64 l with
 | ok v =>
  refine (Tryz.strconv_ParseInt_10_at64_ok ⟨l.toArray⟩ (by omega) v (by rw [hd]; exact hq) w).mono ?_
  rintro e w' ⟨rfl, hw⟩
  refine ⟨.nilIface, by unfold OP; rw [hq], .inl ⟨by unfold OP; rw [hq], rfl⟩, ?_⟩
  rcases hw with rfl | ⟨t, rfl⟩
  ·exact Fr.refl
  ·exact Fr.ofBelow (Lib.bytesWorld_below w _ t)
 | range =>
  refine (Tryz.strconv_ParseInt_10_at64_range ⟨l.toArray⟩ (by omega) (by rw [hd]; exact hq) _ w h2 (.inr ⟨t', p', rfl⟩)).mono ?_
  rintro e w' ⟨N, rfl, _, _, hb⟩
  exact ⟨_, by unfold OP; rw [hq, hd], .inr ⟨by unfold OP; rw [hq], _, _, rfl⟩, Fr.ofBelow hb⟩
 | _ =>
  refine (Tryz.strconv_ParseInt_10_at64_syntax ⟨l.toArray⟩ (by omega) (by rw [hd]; exact hq) _ w h1 (.inr ⟨t, p, rfl⟩)).mono ?_
  rintro e w' ⟨N, rfl, _, _, hb⟩
  exact ⟨_, by unfold OP; rw [hq], .inr ⟨by unfold OP; rw [hq], _, _, rfl⟩, Fr.ofBelow hb⟩
theorem dX {e : Env} {w : World} {o : Oper} {t' : Nat} {x : Operand} {v : Value} {ok : Bool} (ho : o.op = .binOp .neq 192 x (.const .nilIface) t') (hx : ev e x = some v) (hv : s6 ok v) : Y prog e o w (.bool (!ok)) := fun ρ h => by
 have hc : ρ (.const .nilIface) = .nilIface := h _ _ rfl
 rcases hv with ⟨rfl, rfl⟩ | ⟨rfl, t, p, rfl⟩
 ·have h1 : (Op.equal 192 .nilIface .nilIface).run prog w = .ok true w := by
   unfold Op.equal Op.maxDepth Op.equalIn
   simp [run_underlying underlying192]
  unfold execOp
  simp [ho, h _ _ hx, hc, eqGuard_nil_constR, binOp, h1]
 ·have h1 : (Op.equal 192 (.iface t (.pointer p)) .nilIface).run prog w = .ok false w := by
   unfold Op.equal Op.maxDepth Op.equalIn
   simp [run_underlying underlying192]
  unfold execOp
  simp [ho, h _ _ hx, hc, eqGuard_at_iface, binOp, h1]
def N8 (is : UInt8 → Bool) (x : Nat) : Bool := decide (127 < x) || !(is (UInt8.ofNat x))
theorem fN (is : UInt8 → Bool) (x : Nat) : (decide ((127 : Int) < (x : Int)) || (!(is (UInt8.ofNat x)))) = N8 is x := by
 unfold N8
 by_cases h : 127 < x
 ·simp [h, show (127 : Int) < (x : Int) by omega]
 ·simp [h, show ¬ (127 : Int) < (x : Int) by omega]
theorem lL {x : Nat} : (IntKind.u8).wrap (x : Int) = ((UInt8.ofNat x).toNat : Int) := by
 simp [IntKind.wrap, IntKind.bits, IntKind.signed]
def L9 (is : UInt8 → Bool) (l : List UInt8) : Int := Lib.idxFunc (N8 is) true ⟨l.toArray⟩
def spanP (is : UInt8 → Bool) (l : List UInt8) : Nat := if L9 is l < 0 then l.length else (L9 is l).toNat
theorem fQ (is : UInt8 → Bool) (l : List UInt8) : L9 is l < l.length := by
 have h := Lib.idxFuncFrom_range (N8 is) true ⟨l.toArray⟩ (ByteArray.mk l.toArray).size 0
 have hs : (ByteArray.mk l.toArray).size = l.length := by show l.toArray.size = _; simp
 rcases h with h | ⟨_, h⟩
 ·unfold L9 Lib.idxFunc; rw [h]; omega
 ·unfold L9 Lib.idxFunc; omega
theorem OF (is : UInt8 → Bool) (l : List UInt8) : spanP is l ≤ l.length := by
 unfold spanP; have := fQ is l; split <;> omega
theorem fO {is : UInt8 → Bool} {l : List UInt8} (h : L9 is l < 0) : spanP is l = l.length := if_pos h
theorem fP {is : UInt8 → Bool} {l : List UInt8} (h : ¬ L9 is l < 0) : L9 is l = ((spanP is l : Nat) : Int) := by
 unfold spanP; rw [if_neg h]; omega
theorem fR (is : UInt8 → Bool) (g : FuncId) (hfn : ∀ (ar : Array Value) (w : World), (callFunc g ar).run prog w = .ok (.enter g ar) w) (hc : ∀ (b : UInt8) (w : World), Calls prog g #[.int .u8 (b.toNat : Int)] w fun e w' => e = .returned (.bool (is b)) ∧ Fr0 w w') (x : Nat) (g3 : Nat) (w : World) (hb : Blk w g3 161 [.func (.func g) #[] #[]]) :
 Calls prog 141 #[.int .i32 (x : Int), .pointer (some ⟨g3, 0, none⟩)] w fun e w' => e = .returned (.bool (N8 is x)) ∧ Fr0 w w' := by
 refine BE (vs := [_, _]) func141 rfl ntmps141 rfl ?_
 have M := NP w
 refine srg (yb rfl (nq (srg (yb rfl (ya rfl (GC rfl rfl rfl) (yb rfl (DI 6 [(3, .bool false), (12, .bool ((decide ((127 : Int) < (x : Int))) || (!(is (UInt8.ofNat x)))))] (fun w' => Mem w B0 [] w') ?_ (fun k6 => ?_))))))))
 ·intro w1 M
  exact yb rfl (nq (BN (CQ rfl rfl ⟨by rw [fN], M.fr⟩)))
 refine AO (d := 6) (b := (decide ((127 : Int) < (x : Int)))) rfl (fun h6 => ?_) (fun h6 => ?_)
 ·iterate 5 refine yo rfl ?_
  exact yb rfl (k6 _ _ M ⟨rfl, (by rw [h6]; rfl), trivial⟩)
 ·refine ym rfl rfl (Blk.c (hb.fr0 M.fr) 0 rfl) (yd rfl (yp rfl) (yd rfl (K4 (r := ((UInt8.ofNat x).toNat : Int)) rfl rfl underlying21 underlying5 lL) (B3 (some 10) (BG rfl rfl rfl) rfl rfl (BX rfl rfl rfl hfn) (hc _ _) ?_)))
  rintro _ w2 ⟨rfl, hfw2⟩
  refine ⟨_, rfl, ?_⟩
  have M := M.step hfw2
  exact yd rfl (yp rfl) (yb rfl (k6 _ _ M ⟨rfl, (by rw [h6]; rfl), trivial⟩))
theorem qK (is : UInt8 → Bool) (g : FuncId) (hfn : ∀ (ar : Array Value) (w : World), (callFunc g ar).run prog w = .ok (.enter g ar) w) (hc : ∀ (b : UInt8) (w : World), Calls prog g #[.int .u8 (b.toNat : Int)] w fun e w' => e = .returned (.bool (is b)) ∧ Fr0 w w') (l : List UInt8) (g3 : Nat) (w : World) (hb : Blk w g3 161 [.func (.func g) #[] #[]]) :
 Calls prog 140 #[str l, .func (.func 141) #[] #[.pointer (some ⟨g3, 0, none⟩)]] w fun e w' => e = .returned (.int .i64 (L9 is l)) ∧ Fr0 w w' := by
 refine (Tryz.strings_IndexFunc_grows 141 #[.pointer (some ⟨g3, 0, none⟩)] call141 (N8 is) ⟨l.toArray⟩ w ?_).mono ?_
 ·intro W x _ hbW
  exact (fR is g hfn hc x g3 W (hb.fr0 (Fr.ofBelow hbW))).mono fun _ _ ⟨h1, h2⟩ => ⟨h1, h2.below⟩
 ·rintro e w' ⟨rfl, hb'⟩
  exact ⟨rfl, Fr.ofBelow hb'⟩
theorem ZH (is : UInt8 → Bool) (g : FuncId) (hfn : ∀ (ar : Array Value) (w : World), (callFunc g ar).run prog w = .ok (.enter g ar) w) (hc : ∀ (b : UInt8) (w : World), Calls prog g #[.int .u8 (b.toNat : Int)] w fun e w' => e = .returned (.bool (is b)) ∧ Fr0 w w') (l : List UInt8) (w : World) :
 Calls prog 108 #[str l, .func (.func g) #[] #[]] w fun e w' => e = .returned (.int .i64 ((spanP is l : Nat) : Int)) ∧ Fr0 w w' := by
 refine BE (vs := [_, _]) func108 rfl ntmps108 rfl ?_
 have M := NP w
 refine srg (E3 M (AA rfl) rfl rfl 161 rfl rfl ([.func (.func g) #[] #[]]) rfl fun g3 w1 hg3 M => yb rfl (nq (srg (yb rfl (ya rfl (DE (us := []) (vs := [.pointer (some ⟨g3, 0, none⟩)]) rfl rfl rfl) (B3 (some 8) (AA rfl) rfl rfl (AP rfl rfl call140) (qK is g hfn hc l _ _ (M.blk 0 rfl)) ?_))))))
 rintro _ w9 ⟨rfl, hf9⟩
 refine ⟨_, rfl, ?_⟩
 have M := M.step hf9
 refine yb rfl (nq (AF (srg (yb rfl (ya rfl (ED rfl rfl rfl) (nq (AL (b := (decide ((L9 is l) < (0 : Int)))) rfl (fun h10 => ?_) (fun h10 => ?_))))))))
 ·have h10p := (odt h10)
  exact srg (yb rfl (ya rfl (GA rfl rfl underlying9) (yb rfl (nq (BN (AB (CQ rfl rfl ⟨by rw [fO h10p], M.fr⟩)))))))
 ·have h10p := (odf h10)
  exact AI (AD (srg (yb rfl (yb rfl (nq (BN (CQ rfl rfl ⟨by rw [fP h10p], M.fr⟩)))))))
def nGlob : Nat := max (max 0 1) (max 2 3) + 1
structure Lay0 (w : World) : Prop where
 utf : Laid w utfL
 err : aT w
 size : nGlob ≤ w.heap.size
theorem WK : (Nat.blt 0 nGlob && (Nat.blt 1 nGlob && (Nat.blt 2 nGlob && Nat.blt 3 nGlob))) = true := by kernel_rfl
theorem Lay0.fr {S : Nat → Prop} {w w' : World} (h : Lay0 w) (hf : Fr S w w') (hS : ∀ k, S k → nGlob ≤ k) : Lay0 w' := by
 have hn := WK
 simp only [Bool.and_eq_true] at hn
 obtain ⟨n1, n2, n3, n4⟩ := hn
 replace n1 := CO n1
 replace n2 := CO n2
 replace n3 := CO n3
 replace n4 := CO n4
 have no : ∀ g, g < nGlob → ¬ S g := fun g hg hs => by have := hS g hs; omega
 refine ⟨fun p hp => ?_, ?_, Nat.le_trans h.size hf.size⟩
 ·obtain ⟨el, fz, h1⟩ := h.utf p hp
  have hp1 : p.1 < nGlob := by
   simp only [utfL, List.mem_cons, List.not_mem_nil, or_false] at hp
   rcases hp with rfl | rfl
   ·exact n1
   ·exact n2
  exact ⟨el, fz, (hf.block _ (Array.getElem?_eq_some_iff.1 h1).1 (no _ hp1)).trans h1⟩
 ·obtain ⟨t, p, h1⟩ := h.err.1
  obtain ⟨t', p', h2⟩ := h.err.2
  exact ⟨⟨t, p, (hf.cell (World.block_lt_of_cell? w _ h1) (no _ n3)).trans h1⟩, t', p', (hf.cell (World.block_lt_of_cell? w _ h2) (no _ n4)).trans h2⟩
theorem Q7 {l : List UInt8} {c : UInt8} (h : l[0]? = some c) : l.headD 0 = c := by cases l <;> simp_all
theorem TK {a b : Prop} (h : ¬ a ∨ ¬ b) : ¬ (a ∧ b) := fun ⟨h1, h2⟩ => h.elim (fun h => h h1) (fun h => h h2)
def I1 (t : List UInt8) (x : Lx) : Lx :=
 if ((t.headD 0).toNat : Int) = 48 ∧ (1 : Int) < ((t.length : Nat) : Int) then x.fail 4 x.at_
 else if (OP t).2 = true then { x with nd := .lit ⟨1, (OP t).1, false, []⟩ }
 else { (x.fail 91 x.at_) with nd := .lit ⟨1, (OP t).1, false, []⟩ }
def qt : List UInt8 → List UInt8 → Option (List UInt8 × Nat)
 | _, [] => none
 | b, [c] => if (c.toNat : Int) = 39 then some (b, 0) else none
 | b, c :: d :: r => if (c.toNat : Int) = 39 then (if (d.toNat : Int) = 39 then qt (b ++ [d]) r else some (b, r.length + 1)) else qt (b ++ [c]) (d :: r)
theorem gL {l b : List UInt8} {i : Nat} {c : UInt8} (hc : l[i]? = some c) (h : ¬ (c.toNat : Int) = 39) : qt b (l.drop i) = qt (b ++ [c]) (l.drop (i + 1)) := by
 rw [B7 hc]
 cases l.drop (i + 1) with
 | nil => rw [show qt b [c] = if (c.toNat : Int) = 39 then some (b, 0) else none from rfl, if_neg h]; rfl
 | cons d r => rw [qt, if_neg h]
theorem gK {l b : List UInt8} {i : Nat} {c d : UInt8} (hc : l[i]? = some c) (hd : l[i + 1]? = some d) (h : (c.toNat : Int) = 39) (h2 : (d.toNat : Int) = 39) : qt b (l.drop i) = qt (b ++ [d]) (l.drop (i + 2)) := by
 rw [B7 hc, B7 hd, qt, if_pos h, if_pos h2]
theorem gM {l b : List UInt8} {i : Nat} {c : UInt8} (hc : l[i]? = some c) (h : (c.toNat : Int) = 39) (he : ((i + 1 : Nat) : Int) = ((l.length : Nat) : Int)) : qt b (l.drop i) = some (b, l.length - (i + 1)) := by
 have he' : i + 1 = l.length := by omega
 rw [B7 hc, he', List.drop_length, qt, if_pos h, Nat.sub_self]
theorem ZM {l b : List UInt8} {i : Nat} {c d : UInt8} (hc : l[i]? = some c) (hd : l[i + 1]? = some d) (h : (c.toNat : Int) = 39) (h2 : ¬ (d.toNat : Int) = 39) : qt b (l.drop i) = some (b, l.length - (i + 1)) := by
 have hlt := (List.getElem?_eq_some_iff.1 hd).1
 rw [B7 hc, B7 hd, qt, if_pos h, if_neg h2]
 congr 2
 rw [List.length_drop]; omega
def IH (l : List UInt8) (x : Lx) : Lx := match qt [] l.tail with
 | some (b, k) => if utf b = true then { x with nd := .lit ⟨3, 0, false, b⟩, at_ := x.at_ + (l.length - k) } else x.fail 4 x.at_
 | none => x.fail 4 x.at_
theorem VX {l b : List UInt8} {x : Lx} {i : Nat} (hi : i ≤ l.length) (h : qt [] l.tail = some (b, l.length - i)) (hu : utf b = true) : IH l x = { x with nd := .lit ⟨3, 0, false, b⟩, at_ := x.at_ + i } := by
 unfold IH
 rw [h]
 simp only [if_pos hu]
 congr 2; omega
theorem TE {l b : List UInt8} {x : Lx} {k : Nat} (h : qt [] l.tail = some (b, k)) (hu : utf b = false) : IH l x = x.fail 4 x.at_ := by
 unfold IH
 rw [h]
 simp [hu]
theorem f5 {l : List UInt8} {x : Lx} (h : qt [] l.tail = none) : IH l x = x.fail 4 x.at_ := by
 unfold IH
 rw [h]
theorem SM {T e : TypeId} {B b : Nat} {bs : List Value} {W W' : World} (h : Lib.IsBuilderF T e B b bs W) (hb : Below W.heap.size W W') : Lib.IsBuilderF T e B b bs W' :=
 have one : ∀ {p : Value}, Lib.BuilderAtF T e B b p bs W → Lib.BuilderAtF T e B b p bs W' := fun h => by
  have hlt := h.lt
  obtain ⟨hB, v, hv, hown, hne⟩ := h
  exact ⟨hB, v, (hb.block b hlt).trans hv, hown.kept (row := none) ⟨hb.os, hb.tape, hb.output, hb.size, fun k hk _ => hb.block k hk⟩ (Classical.em _), hne⟩
 h.elim (fun x => .inl (one x)) (fun x => .inr (one x))
theorem cP {w : World} {B g : Nat} (hB : B ≤ g) (hb : Blk w g 198 [.pointer none, .slice none 0 0]) : Lib.IsBuilder 198 5 B g (bvs []) w :=
 .inl ⟨hB, .slice none 0 0, hb, ⟨rfl, .inl ⟨rfl, rfl⟩⟩, by simp [Value.ownBlock]⟩
theorem Mem.belowOld {w w1 w2 : World} {S : Nat → Prop} {g t : Nat} {cs : List Value} (M : Mem w S [As.blk g t cs] w1) (hg : g < w.heap.size) (hb : Below w.heap.size w1 w2) : Mem w S [As.blk g t cs] w2 where
 fr := ⟨hb.os.trans M.fr.os, hb.tape.trans M.fr.tape, hb.output.trans M.fr.output, Nat.le_trans M.fr.size hb.size, fun k hk hn => (hb.block k hk).trans (M.fr.block k hk hn)⟩
 ok i a hi := by
  cases i with
  | zero =>
   simp only [List.getElem?_cons_zero, Option.some.injEq] at hi; subst hi
   exact (hb.block g hg).trans (M.blk 0 rfl)
  | succ i => simp at hi
 lt i a hi k hk := by
  obtain ⟨h1, h2⟩ := M.lt i a hi k hk
  exact ⟨Nat.lt_of_lt_of_le h1 hb.size, h2⟩
 apart := M.apart
theorem KL (a0 : Int) (a1 : Int) : prog.built 45 [(0, .int .u8 a0), (1, .int .i64 a1)] = some #[.int .u8 a0, .int .i64 a1, .bool false, str []] := by kernel_rfl
theorem KK (a0 : Int) (a3 : List UInt8) : prog.built 45 [(0, .int .u8 a0), (3, str a3)] = some #[.int .u8 a0, .int .i64 0, .bool false, str a3] := by kernel_rfl
theorem ND : (prog.info? 198).map (·.zero) = some (some (.agg #[.pointer none, .slice none 0 0])) := by kernel_rfl
theorem iI (s : List UInt8) (x : Lx) (gx : Nat) (t : List UInt8) (w : World) (hb : Blk w gx 110 (Lx.cells s x)) (ht : 0 < t.length) (hl : t.length ≤ 281474976710656) (hY : Lay0 w) (hgx : nGlob ≤ gx) :
 Calls prog 109 #[.pointer (some ⟨gx, 0, none⟩), str t] w fun e w' => e = .returned (.tuple #[]) ∧ Blk w' gx 110 (Lx.cells s (I1 t x)) ∧ Fr (fun k => k = gx) w w' := by
 have hGx : ∀ k, k = gx → nGlob ≤ k := fun _ e => e ▸ hgx
 refine BE (vs := [_, _]) func109 rfl ntmps109 rfl ?_
 have M : Mem w (fun k => k = gx) [As.blk gx 110 (Lx.cells s x)] w := Mem.one hb
 refine AF (srg (yb rfl ?_))
 obtain ⟨c, hc⟩ := CC (l := t) (i := 0) (by omega)
 refine ya rfl (GT rfl rfl rfl underlying9 hc) (ya rfl (BZ rfl rfl rfl) (yb rfl (DI 4 [(1, str t), (0, .pointer (some ⟨gx, 0, none⟩)), (13, .bool ((decide ((c.toNat : Int) = (48 : Int))) && (decide ((1 : Int) < ((t.length : Nat) : Int)))))] (fun w' => Mem w (fun k => k = gx) [As.blk gx 110 (Lx.cells s x)] w') ?_ (fun k9 => ?_))))
 ·intro w1 M
  refine nq (AL (b := ((decide ((c.toNat : Int) = (48 : Int))) && (decide ((1 : Int) < ((t.length : Nat) : Int))))) rfl (fun h13 => ?_) (fun h13 => ?_))
  ·have h13p := (And.intro (odt (CL h13).1) (odt (CL h13).2))
   refine srg ?_
   iterate 4 refine yb rfl ?_
   refine yl rfl rfl (M.cell 0 rfl rfl) (B3 (some 19) (AA rfl) rfl rfl (AP rfl rfl call54) (FT s x _ _ _ _ (M.blk 0 rfl)) ?_)
   rintro _ w2 ⟨rfl, hbw2, hfw2⟩
   have M := M.putB 0 rfl hbw2 hfw2
   exact ⟨_, rfl, nq (BN (AB (CM (Or.inl rfl) rfl ⟨rfl, by rw [I1, Q7 hc, if_pos h13p]; exact M.blk 0 rfl, M.fr⟩)))⟩
  ·have h13p := ((DT h13).imp (fun z => (odf z)) (fun z => (odf z)))
   refine AI (AD (srg (yb rfl (B3 (some 22) (AA rfl) rfl rfl (AP rfl rfl call142) (mP t _ (by omega) (hY.fr M.fr hGx).err) ?_))))
   rintro _ w3 ⟨er, rfl, her, hfw3⟩
   refine ⟨_, rfl, ?_⟩
   have M := M.step hfw3
   iterate 5 refine yb rfl ?_
   refine nq (AF (srg (yb rfl (ya rfl (dX rfl rfl her) (nq (AL (b := (!(OP t).2)) rfl (fun h26 => ?_) (fun h26 => ?_)))))))
   ·refine AK ?_
    iterate 4 refine yb rfl ?_
    refine yl rfl rfl (M.cell 0 rfl rfl) (B3 (some 32) (AA rfl) rfl rfl (AP rfl rfl call54) (FT s x _ _ _ _ (M.blk 0 rfl)) ?_)
    rintro _ w4 ⟨rfl, hbw4, hfw4⟩
    have M := M.putB 0 rfl hbw4 hfw4
    exact ⟨_, rfl, nq (AK (yb rfl (yb rfl (ya rfl (BA (parts := [(0, _), (1, _)]) rfl rfl (KL _ _)) (ya rfl (BA (parts := [(0, _), (1, _)]) rfl rfl (FU _ _ _ _ _)) (yb rfl (yb rfl (yb rfl (D7 (cs' := [str s, .int .i64 (((x.fail 91 x.at_).at_ : Nat) : Int), .int .u8 1, .int .u8 1, .int .i64 ((OP t).1), .bool false, str [], str [], .slice none 0 0, str ((x.fail 91 x.at_).say), .int .i64 (((x.fail 91 x.at_).tat : Nat) : Int), .bool ((x.fail 91 x.at_).fin), .int .i64 ((x.fail 91 x.at_).e), .int .i64 (((x.fail 91 x.at_).wh : Nat) : Int)]) M 0 (AA rfl) rfl rfl rfl rfl rfl AZ rfl (BS rfl) (BP rfl) rfl fun w5 M => AR (CM (Or.inr rfl) rfl ⟨rfl, by rw [I1, Q7 hc, if_neg (TK h13p), if_neg (I2 (CK h26))]; exact M.blk 0 rfl, M.fr⟩))))))))))⟩
   ·exact AI (AD (AK (yb rfl (yb rfl (ya rfl (BA (parts := [(0, _), (1, _)]) rfl rfl (KL _ _)) (ya rfl (BA (parts := [(0, _), (1, _)]) rfl rfl (FU _ _ _ _ _)) (yb rfl (yb rfl (yb rfl (D7 (cs' := [str s, .int .i64 ((x.at_ : Nat) : Int), .int .u8 1, .int .u8 1, .int .i64 ((OP t).1), .bool false, str [], str [], .slice none 0 0, str x.say, .int .i64 ((x.tat : Nat) : Int), .bool x.fin, .int .i64 x.e, .int .i64 ((x.wh : Nat) : Int)]) M 0 (AA rfl) rfl rfl rfl rfl rfl AZ rfl (BS rfl) (BP rfl) rfl fun w6 M => AR (CM (Or.inr rfl) rfl ⟨rfl, by rw [I1, Q7 hc, if_neg (TK h13p), if_pos (BQ h26)]; exact M.blk 0 rfl, M.fr⟩)))))))))))
 refine AO (d := 9) (b := (decide ((c.toNat : Int) = (48 : Int)))) rfl (fun h9 => ?_) (fun h9 => ?_)
 ·exact yd rfl (yp rfl) (yd rfl (GA rfl rfl underlying9) (yd rfl (GC rfl rfl rfl) (yb rfl (k9 _ _ M ⟨rfl, rfl, (by rw [h9]; rfl), trivial⟩))))
 ·exact yo rfl (yo rfl (yo rfl (yb rfl (k9 _ _ M ⟨rfl, rfl, (by rw [h9]; rfl), trivial⟩))))
theorem cK (s : List UInt8) (x : Lx) (gx : Nat) (l : List UInt8) (w : World) (hb : Blk w gx 110 (Lx.cells s x)) (hn : 0 < l.length) (hl : l.length + x.at_ ≤ 70368744177664) (hY : Lay0 w) (hgx : nGlob ≤ gx) :
 Calls prog 113 #[.pointer (some ⟨gx, 0, none⟩), str l] w fun e w' => e = .returned (.tuple #[]) ∧ Blk w' gx 110 (Lx.cells s (IH l x)) ∧ Fr (fun k => k = gx) w w' := by
 have hGx : ∀ k, k = gx → nGlob ≤ k := fun _ e => e ▸ hgx
 have hlt : gx < w.heap.size := hb.lt
 refine BE (vs := [_, _]) func113 rfl ntmps113 rfl ?_
 have M : Mem w (fun k => k = gx) [As.blk gx 110 (Lx.cells s x)] w := Mem.one hb
 refine srg (DJ M (AA rfl) rfl rfl 198 rfl [.pointer none, .slice none 0 0] ND rfl fun g4 w1 hg4 M => ?_)
 have hbu : Lib.IsBuilder 198 5 w.heap.size g4 (bvs []) w1 := cP (by have := M.fr.size; omega) (M.blk 0 rfl)
 have M := M.drop 1
 replace M : Mem w (fun k => k = gx) [As.blk gx 110 (Lx.cells s x)] w1 := M
 refine nq (AF (srg (yb rfl (nq (AS (G0 (fun e wr mz => ∃ (i : Nat) (b : List UInt8), e = [(0, .pointer (some ⟨gx, 0, none⟩)), (1, str l), (4, .pointer (some ⟨g4, 0, none⟩)), (5, .int .i64 ((i : Nat) : Int))] ∧ Mem w (fun k => k = gx) [As.blk gx 110 (Lx.cells s x)] wr ∧ (1 ≤ i ∧ i ≤ l.length) ∧ (b.length ≤ i) ∧ (Lib.IsBuilder 198 5 w.heap.size g4 (bvs b) wr) ∧ (qt [] l.tail = qt b (l.drop i)) ∧ mz = l.length - i) ⟨1, [], rfl, M, ⟨Nat.le_refl _, by omega⟩, Nat.zero_le _, hbu, by rw [List.drop_one], rfl⟩ ⟨rfl, rfl, rfl, rfl, trivial⟩ ?_))))))
 rintro _ w2 _ ⟨i, b, rfl, M, hi, hbl, hbu, hq, rfl⟩
 refine AF (srg (yb rfl (yb rfl (ya rfl (GA rfl rfl underlying9) (ya rfl (ED rfl rfl rfl) (nq (AL (b := (decide (((i : Nat) : Int) < ((l.length : Nat) : Int)))) rfl (fun h9 => ?_) (fun h9 => ?_))))))))
 ·have h9p := (odt h9)
  refine AI (AD (AF (AS (AF (srg (yb rfl (yb rfl ?_)))))))
  obtain ⟨c, hc⟩ := CC (l := l) (i := i) (by omega)
  refine ya rfl (GT rfl rfl rfl underlying9 hc) (ya rfl (BZ rfl rfl rfl) (nq (AL (b := (decide ((c.toNat : Int) = (39 : Int)))) rfl (fun h15 => ?_) (fun h15 => ?_))))
  ·have h15p := (odt h15)
   refine srg (yb rfl (ya rfl (BO rfl rfl rfl (by omega)) (yb rfl (nq (srg (yb rfl (yb rfl (ya rfl (GA rfl rfl underlying9) (ya rfl (BZ rfl rfl rfl) (yb rfl (AO (d := 22) (b := (decide (((i + 1 : Nat) : Int) = ((l.length : Nat) : Int)))) rfl (fun h22 => ?_) (fun h22 => ?_))))))))))))
   ·have h22p := (odt h22)
    iterate 4 refine yo rfl ?_
    refine yb rfl (nq (EL rfl (AF (srg ?_))))
    have hbf := Lib.IsBuilderF.of hbu
    refine B3 (some 28) (AA rfl) rfl rfl (AP rfl rfl call144) (Tryz.Builder_String_any_f w.heap.size g4 b _ hbf M.fr.size) ?_
    rintro _ w3 ⟨rfl, hbf, hBw3⟩
    refine ⟨_, rfl, ?_⟩
    have M := M.belowOld hlt hBw3
    refine B3 (some 29) (AA rfl) rfl rfl (AP rfl rfl call123) (KP _ _ (by omega) (hY.fr M.fr hGx).utf) ?_
    rintro _ w4 ⟨rfl, hfw4⟩
    refine ⟨_, rfl, ?_⟩
    have M := M.step hfw4
    have hbf := SM hbf hfw4.below
    refine yb rfl (nq (AL (b := (!(utf b))) rfl (fun h30 => ?_) (fun h30 => ?_)))
    ·have h30p := (CK h30)
     refine BF (AG (AG (G6 rfl (AG (AG (AV (AD (AK ?_))))))))
     iterate 4 refine yb rfl ?_
     refine yl rfl rfl (M.cell 0 rfl rfl) (B3 (some 55) (AA rfl) rfl rfl (AP rfl rfl call54) (FT s x _ _ _ _ (M.blk 0 rfl)) ?_)
     rintro _ w5 ⟨rfl, hbw5, hfw5⟩
     have M := M.putB 0 rfl hbw5 hfw5
     exact ⟨_, rfl, AR (CM (Or.inr rfl) rfl ⟨rfl, by rw [TE (hq.trans (gM hc h15p h22p)) h30p]; exact M.blk 0 rfl, M.fr⟩)⟩
    ·have h30p := (BQ h30)
     refine AI (AD (srg (yb rfl (B3 (some 32) (AA rfl) rfl rfl (AP rfl rfl call144) (Tryz.Builder_String_any_f w.heap.size g4 b _ hbf M.fr.size) ?_))))
     rintro _ w6 ⟨rfl, hbf, hBw6⟩
     refine ⟨_, rfl, ?_⟩
     have M := M.belowOld hlt hBw6
     refine ya rfl (BA (parts := [(0, _), (3, _)]) rfl rfl (KK _ _)) (ya rfl (BA (parts := [(0, _), (1, _)]) rfl rfl (FU _ _ _ _ _)) (yb rfl (yb rfl (yb rfl (D7 (cs' := [str s, .int .i64 ((x.at_ : Nat) : Int), .int .u8 1, .int .u8 3, .int .i64 0, .bool false, str b, str [], .slice none 0 0, str x.say, .int .i64 ((x.tat : Nat) : Int), .bool x.fin, .int .i64 x.e, .int .i64 ((x.wh : Nat) : Int)]) M 0 (AA rfl) rfl rfl rfl rfl rfl AZ rfl (BS rfl) (BP rfl) rfl fun w7 M => nq (srg (yb rfl (yb rfl (yb rfl (yl rfl rfl (M.cell 0 rfl rfl) (yb rfl ?_)))))))))))
     exact ya rfl (BO rfl rfl rfl (by omega)) (yb rfl (yb rfl (D0 (cs' := [str s, .int .i64 ((x.at_ + (i + 1) : Nat) : Int), .int .u8 1, .int .u8 3, .int .i64 0, .bool false, str b, str [], .slice none 0 0, str x.say, .int .i64 ((x.tat : Nat) : Int), .bool x.fin, .int .i64 x.e, .int .i64 ((x.wh : Nat) : Int)]) M 0 (AA rfl) rfl rfl rfl rfl rfl rfl rfl GQ (CO rfl) rfl fun w8 M => nq (BN (AB (AN (AB (AB (AN (AB (CM (Or.inl rfl) rfl ⟨rfl, by rw [VX (i := i + 1) (by omega) (hq.trans (gM hc h15p h22p)) h30p]; exact M.blk 0 rfl, M.fr⟩)))))))))))
   ·have h22p := (odf h22)
    refine yd rfl (yp rfl) (yd rfl (yp rfl) ?_)
    obtain ⟨d, hd⟩ := CC (l := l) (i := i + 1) (by omega)
    refine yd rfl (GT rfl rfl rfl underlying9 hd) (yd rfl (E4 rfl rfl rfl) (yb rfl (nq (AL (b := (!decide ((d.toNat : Int) = (39 : Int)))) rfl (fun h27 => ?_) (fun h27 => ?_)))))
    ·have h27p := (odf (CK h27))
     refine AF (srg ?_)
     have hbf := Lib.IsBuilderF.of hbu
     refine B3 (some 28) (AA rfl) rfl rfl (AP rfl rfl call144) (Tryz.Builder_String_any_f w.heap.size g4 b _ hbf M.fr.size) ?_
     rintro _ w9 ⟨rfl, hbf, hBw9⟩
     refine ⟨_, rfl, ?_⟩
     have M := M.belowOld hlt hBw9
     refine B3 (some 29) (AA rfl) rfl rfl (AP rfl rfl call123) (KP _ _ (by omega) (hY.fr M.fr hGx).utf) ?_
     rintro _ w10 ⟨rfl, hfw10⟩
     refine ⟨_, rfl, ?_⟩
     have M := M.step hfw10
     have hbf := SM hbf hfw10.below
     refine yb rfl (nq (AL (b := (!(utf b))) rfl (fun h30 => ?_) (fun h30 => ?_)))
     ·have h30p := (CK h30)
      refine BF (AG (AG (G6 rfl (AG (AG (AV (AD (AK ?_))))))))
      iterate 4 refine yb rfl ?_
      refine yl rfl rfl (M.cell 0 rfl rfl) (B3 (some 55) (AA rfl) rfl rfl (AP rfl rfl call54) (FT s x _ _ _ _ (M.blk 0 rfl)) ?_)
      rintro _ w11 ⟨rfl, hbw11, hfw11⟩
      have M := M.putB 0 rfl hbw11 hfw11
      exact ⟨_, rfl, AR (CM (Or.inr rfl) rfl ⟨rfl, by rw [TE (hq.trans (ZM hc hd h15p h27p)) h30p]; exact M.blk 0 rfl, M.fr⟩)⟩
     ·have h30p := (BQ h30)
      refine AI (AD (srg (yb rfl (B3 (some 32) (AA rfl) rfl rfl (AP rfl rfl call144) (Tryz.Builder_String_any_f w.heap.size g4 b _ hbf M.fr.size) ?_))))
      rintro _ w12 ⟨rfl, hbf, hBw12⟩
      refine ⟨_, rfl, ?_⟩
      have M := M.belowOld hlt hBw12
      refine ya rfl (BA (parts := [(0, _), (3, _)]) rfl rfl (KK _ _)) (ya rfl (BA (parts := [(0, _), (1, _)]) rfl rfl (FU _ _ _ _ _)) (yb rfl (yb rfl (yb rfl (D7 (cs' := [str s, .int .i64 ((x.at_ : Nat) : Int), .int .u8 1, .int .u8 3, .int .i64 0, .bool false, str b, str [], .slice none 0 0, str x.say, .int .i64 ((x.tat : Nat) : Int), .bool x.fin, .int .i64 x.e, .int .i64 ((x.wh : Nat) : Int)]) M 0 (AA rfl) rfl rfl rfl rfl rfl AZ rfl (BS rfl) (BP rfl) rfl fun w13 M => nq (srg (yb rfl (yb rfl (yb rfl (yl rfl rfl (M.cell 0 rfl rfl) (yb rfl ?_)))))))))))
      exact ya rfl (BO rfl rfl rfl (by omega)) (yb rfl (yb rfl (D0 (cs' := [str s, .int .i64 ((x.at_ + (i + 1) : Nat) : Int), .int .u8 1, .int .u8 3, .int .i64 0, .bool false, str b, str [], .slice none 0 0, str x.say, .int .i64 ((x.tat : Nat) : Int), .bool x.fin, .int .i64 x.e, .int .i64 ((x.wh : Nat) : Int)]) M 0 (AA rfl) rfl rfl rfl rfl rfl rfl rfl GQ (CO rfl) rfl fun w14 M => nq (BN (AB (AN (AB (AB (AN (AB (CM (Or.inl rfl) rfl ⟨rfl, by rw [VX (i := i + 1) (by omega) (hq.trans (ZM hc hd h15p h27p)) h30p]; exact M.blk 0 rfl, M.fr⟩)))))))))))
    ·have h27p := (odt (BQ h27))
     refine AI (AD (AK (yb rfl (yb rfl (ya rfl (GT rfl rfl rfl underlying9 hd) (B3 (some 49) (AA rfl) rfl rfl (AP rfl rfl call145) (O3 w.heap.size g4 b d _ hbu (by omega) M.fr.size) ?_))))))
     rintro _ w15 ⟨rfl, hbu, hBw15⟩
     refine ⟨_, rfl, ?_⟩
     have M := M.belowOld hlt hBw15
     refine AR (AE (AD (AK (yb rfl (ya rfl (BO rfl rfl rfl (by omega)) (yb rfl (AR (FH [(0, .pointer (some ⟨gx, 0, none⟩)), (1, str l), (4, .pointer (some ⟨g4, 0, none⟩)), (5, .int .i64 (((i + 2) : Nat) : Int))] (l.length - (i + 2)) ⟨i + 2, (b ++ [d]), rfl, M, ?_, ?_, ?_, ?_, rfl⟩ (by first | omega | (simp only [List.length_append, List.length_cons, List.length_nil]; omega)) ⟨rfl, rfl, rfl, rfl, trivial⟩))))))))
     ·omega
     ·simp only [List.length_append, List.length_cons, List.length_nil]; omega
     ·exact hbu
     ·first
       | (rw [hq, gK hc hd h15p h27p])
       | (rw [hq, gL hc h15p])
  ·have h15p := (odf h15)
   refine AI (AD (AK (yb rfl (yb rfl (ya rfl (GT rfl rfl rfl underlying9 hc) (B3 (some 49) (AA rfl) rfl rfl (AP rfl rfl call145) (O3 w.heap.size g4 b c _ hbu (by omega) M.fr.size) ?_))))))
   rintro _ w16 ⟨rfl, hbu, hBw16⟩
   refine ⟨_, rfl, ?_⟩
   have M := M.belowOld hlt hBw16
   refine AR (AE (AD (AK (yb rfl (ya rfl (BO rfl rfl rfl (by omega)) (yb rfl (AR (FH [(0, .pointer (some ⟨gx, 0, none⟩)), (1, str l), (4, .pointer (some ⟨g4, 0, none⟩)), (5, .int .i64 (((i + 1) : Nat) : Int))] (l.length - (i + 1)) ⟨i + 1, (b ++ [c]), rfl, M, ?_, ?_, ?_, ?_, rfl⟩ (by first | omega | (simp only [List.length_append, List.length_cons, List.length_nil]; omega)) ⟨rfl, rfl, rfl, rfl, trivial⟩))))))))
   ·omega
   ·simp only [List.length_append, List.length_cons, List.length_nil]; omega
   ·exact hbu
   ·first
     | (rw [hq, gK hc hd h15p h27p])
     | (rw [hq, gL hc h15p])
 ·have h9p := (odf h9)
  refine BF (AG (AG (AV (AD (AK ?_)))))
  iterate 4 refine yb rfl ?_
  refine yl rfl rfl (M.cell 0 rfl rfl) (B3 (some 55) (AA rfl) rfl rfl (AP rfl rfl call54) (FT s x _ _ _ _ (M.blk 0 rfl)) ?_)
  rintro _ w17 ⟨rfl, hbw17, hfw17⟩
  have M := M.putB 0 rfl hbw17 hfw17
  refine ⟨_, rfl, AR (CM (Or.inr rfl) rfl ?_)⟩
  obtain rfl : i = l.length := by omega
  exact ⟨rfl, by rw [f5 (hq.trans (by rw [List.drop_length]; cases b <;> rfl))]; exact M.blk 0 rfl, M.fr⟩
end Go.Proofs.YtjaocmocdhckaaaGreatDoor
