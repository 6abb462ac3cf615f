/- Lemmas that the last text rests on. Condition: each says its own. -/
import Derived.Test.YtjaocmocdhckaaaGreatDoorZb4
import Derived.Laws.RangeString
set_option maxHeartbeats 16000000
set_option maxRecDepth 100000
namespace Go.Proofs.YtjaocmocdhckaaaGreatDoor
open Go.RowKit
open Tryz
section
theorem aF {P : Program} {e : Env} {w : World} {o : Oper} {v : Value} (h : Y P e o w v) : ∀ ρ, Ag e ρ → GM P ρ o w (fun u w' => u = v ∧ w' = w) := fun ρ hρ => ⟨v, w, .inl (h ρ hρ), rfl, rfl⟩
theorem EV {P : Program} {e : Env} {w : World} {o : Oper} {t t' : Nat} {a b : Nat} {x y : Operand} (ho : o.op = .binOp .sub t x y t') (hx : ev e x = some (.int .i64 (a : Int))) (hy : ev e y = some (.int .i64 (b : Int))) (h : b ≤ a) (hl : a ≤ 9223372036854775807) : Y P e o w (.int .i64 ((a - b : Nat) : Int)) := by
 have : ((a - b : Nat) : Int) = (a : Int) - (b : Int) := by omega
 rw [this]; exact oO ho hx hy (by omega)
theorem eV {l r : List UInt8} (w : World) (h : NW l = r) : Calls prog 106 #[str l, str [32]] w fun e w' => e = .returned (str r) ∧ w = w' := h ▸ eW l w
theorem K2 (p : UInt8 → Bool) : ∀ l : List UInt8, (l.dropWhile p).length ≤ l.length
 | [] => Nat.le_refl _
 | b :: l => by
  rw [List.dropWhile_cons]
  split
  ·exact Nat.le_succ_of_le (K2 p l)
  ·exact Nat.le_refl _
theorem KF (l : List UInt8) (k : Nat) : (NW (l.drop k)).length ≤ l.length :=
 Nat.le_trans (K2 _ _) (by rw [List.length_drop]; omega)
theorem jW {b : UInt8} (h : D2 b = true) : b.toNat < 128 := by
 have := odt (CL h).2
 omega
theorem TG {is : UInt8 → Bool} {l : List UInt8} {b : UInt8} (hb : l[0]? = some b) (hl : b.toNat < 128) (h : is b = true) : 0 < spanP is l := by
 obtain ⟨b', r, rfl⟩ : ∃ b' r, l = b' :: r := by cases l with | nil => simp at hb | cons b' r => exact ⟨b', r, rfl⟩
 obtain rfl : b' = b := by simpa using hb
 unfold spanP
 split
 ·simp
 ·have hs : (ByteArray.mk (b' :: r).toArray).size = r.length + 1 := by show (b' :: r).toArray.size = _; simp
  have hd : Utf8.decode ⟨(b' :: r).toArray⟩ 0 = (b'.toNat, 1) := Go.decode_ascii _ 0 (by omega) hl
  have hq : N8 is b'.toNat = false := by
   unfold N8
   rw [UInt8.ofNat_toNat, h]
   simp only [Bool.not_true, Bool.or_false, decide_eq_false_iff_not]; omega
  have h0 : L9 is (b' :: r) = Lib.idxFuncFrom (N8 is) true ⟨(b' :: r).toArray⟩ r.length 1 := by
   unfold L9 Lib.idxFunc
   rw [hs, Lib.idxFuncFrom, if_pos (by omega), hd]
   simp only [hq, Bool.false_eq_true, if_false, Nat.zero_add]
  have h1 := Lib.idxFuncFrom_range (N8 is) true ⟨(b' :: r).toArray⟩ r.length 1
  rw [← h0] at h1
  rcases h1 with h1 | h1 <;> omega
theorem GK (x : Lx) (e : Int) (p : Nat) : (x.fail e p).at_ = x.at_ := by unfold Lx.fail; split <;> rfl
theorem OQ (t : List UInt8) (x : Lx) : (I1 t x).at_ = x.at_ := by
 unfold I1
 split
 ·exact GK _ _ _
 ·split
  ·rfl
  ·exact GK _ _ _
theorem LQ (t : List UInt8) (x : Lx) : (FM t x).at_ = x.at_ := by
 unfold FM
 repeat' split
 all_goals first | rfl | exact GK _ _ _
def sgnN (r : List UInt8) : Nat := if ((AW (r.take (min 2 r.length))).isSome && (decide ((1 : Int) < ((r.length : Nat) : Int)))) then 2 else 1
theorem ZJ {r : List UInt8} (h : ¬ r = []) : sgnN r ≤ r.length := by
 have : 0 < r.length := List.length_pos_iff.2 h
 unfold sgnN
 split
 ·rename_i h1
  have := odt (CL h1).2
  omega
 ·omega
theorem fZ (r : List UInt8) : sgnN r ≤ 2 := by unfold sgnN; split <;> omega
def IK (s r : List UInt8) (x : Lx) : Lx :=
 if r = [] ∨ ¬ x.e = 0 then ⟨s.length - r.length, .zero, [], s.length - r.length, true, x.e, x.wh⟩
 else if D2 (r.headD 0) = true then { I1 (r.take (spanP D2 r)) ⟨s.length - r.length, .zero, [], s.length - r.length, false, x.e, x.wh⟩ with at_ := (I1 (r.take (spanP D2 r)) ⟨s.length - r.length, .zero, [], s.length - r.length, false, x.e, x.wh⟩).at_ + spanP D2 r }
 else if EX (r.headD 0) = true then { FM (r.take (spanP DK r)) ⟨s.length - r.length, .zero, [], s.length - r.length, false, x.e, x.wh⟩ with at_ := (FM (r.take (spanP DK r)) ⟨s.length - r.length, .zero, [], s.length - r.length, false, x.e, x.wh⟩).at_ + spanP DK r }
 else if ((r.headD 0).toNat : Int) = 39 then IH r ⟨s.length - r.length, .zero, [], s.length - r.length, false, x.e, x.wh⟩
 else if (((!(AW (r.take (sgnN r))).isSome) && (!decide ((r.take (sgnN r)) = [40]))) && (!decide ((r.take (sgnN r)) = [41]))) = true then
  { (⟨s.length - r.length, .zero, r.take (sgnN r), s.length - r.length, false, x.e, x.wh⟩ : Lx).fail 4 (s.length - r.length) with at_ := ((⟨s.length - r.length, .zero, r.take (sgnN r), s.length - r.length, false, x.e, x.wh⟩ : Lx).fail 4 (s.length - r.length)).at_ + sgnN r }
 else ⟨s.length - r.length + sgnN r, .zero, r.take (sgnN r), s.length - r.length, false, x.e, x.wh⟩
def BJ (s : List UInt8) (x : Lx) : Lx := IK s (NW (s.drop x.at_)) x
theorem KA {s r : List UInt8} {x : Lx} (h : NW (s.drop x.at_) = r) : BJ s x = IK s r x := h ▸ rfl
section
variable {s r : List UInt8} {x : Lx} {b : UInt8}
theorem PI (h : r = [] ∨ ¬ x.e = 0) : IK s r x = ⟨s.length - r.length, .zero, [], s.length - r.length, true, x.e, x.wh⟩ := if_pos h
theorem TL (h : ¬ r = [] ∧ x.e = 0) (hb : r[0]? = some b) (h1 : D2 b = true) : IK s r x = { I1 (r.take (spanP D2 r)) ⟨s.length - r.length, .zero, [], s.length - r.length, false, x.e, x.wh⟩ with at_ := (I1 (r.take (spanP D2 r)) ⟨s.length - r.length, .zero, [], s.length - r.length, false, x.e, x.wh⟩).at_ + spanP D2 r } := by
 rw [IK, if_neg (fun z => z.elim h.1 (fun z => z h.2)), Q7 hb, if_pos h1]
theorem RM (h : ¬ r = [] ∧ x.e = 0) (hb : r[0]? = some b) (h1 : D2 b = false) (h2 : EX b = true) : IK s r x = { FM (r.take (spanP DK r)) ⟨s.length - r.length, .zero, [], s.length - r.length, false, x.e, x.wh⟩ with at_ := (FM (r.take (spanP DK r)) ⟨s.length - r.length, .zero, [], s.length - r.length, false, x.e, x.wh⟩).at_ + spanP DK r } := by
 rw [IK, if_neg (fun z => z.elim h.1 (fun z => z h.2)), Q7 hb, if_neg (I2 h1), if_pos h2]
theorem RN (h : ¬ r = [] ∧ x.e = 0) (hb : r[0]? = some b) (h1 : D2 b = false) (h2 : EX b = false) (h3 : (b.toNat : Int) = 39) : IK s r x = IH r ⟨s.length - r.length, .zero, [], s.length - r.length, false, x.e, x.wh⟩ := by
 rw [IK, if_neg (fun z => z.elim h.1 (fun z => z h.2)), Q7 hb, if_neg (I2 h1), if_neg (I2 h2), if_pos h3]
theorem TM (h : ¬ r = [] ∧ x.e = 0) (hb : r[0]? = some b) (h1 : D2 b = false) (h2 : EX b = false) (h3 : ¬ (b.toNat : Int) = 39)
 (h4 : (((!(AW (r.take (sgnN r))).isSome) && (!decide ((r.take (sgnN r)) = [40]))) && (!decide ((r.take (sgnN r)) = [41]))) = true) : IK s r x = { (⟨s.length - r.length, .zero, r.take (sgnN r), s.length - r.length, false, x.e, x.wh⟩ : Lx).fail 4 (s.length - r.length) with at_ := ((⟨s.length - r.length, .zero, r.take (sgnN r), s.length - r.length, false, x.e, x.wh⟩ : Lx).fail 4 (s.length - r.length)).at_ + sgnN r } := by
 rw [IK, if_neg (fun z => z.elim h.1 (fun z => z h.2)), Q7 hb, if_neg (I2 h1), if_neg (I2 h2), if_neg h3, if_pos h4]
theorem RO (h : ¬ r = [] ∧ x.e = 0) (hb : r[0]? = some b) (h1 : D2 b = false) (h2 : EX b = false) (h3 : ¬ (b.toNat : Int) = 39)
 (h4 : (((!(AW (r.take (sgnN r))).isSome) && (!decide ((r.take (sgnN r)) = [40]))) && (!decide ((r.take (sgnN r)) = [41]))) = false) : IK s r x = ⟨s.length - r.length + sgnN r, .zero, r.take (sgnN r), s.length - r.length, false, x.e, x.wh⟩ := by
 rw [IK, if_neg (fun z => z.elim h.1 (fun z => z h.2)), Q7 hb, if_neg (I2 h1), if_neg (I2 h2), if_neg h3, if_neg (I2 h4)]
end
theorem P7 (a2 : Int) (a3 : Bool) : prog.built 108 [(2, .int .i64 a2), (3, .bool a3)] = some #[.int .u8 0, .int .u8 0, .int .i64 0, .bool false, str [], str [], .slice none 0 0, str [], .int .i64 a2, .bool a3] := by kernel_rfl
theorem ZC : (prog.info? 4).map (·.size) = some 1 := by kernel_rfl
theorem E2 : (prog.info? 116).map (·.size) = some 2 := by kernel_rfl
theorem SR : (prog.info? 108).map (·.size) = some 10 := by kernel_rfl
theorem CD : (prog.info? 116).map (·.zero) = some (some (.agg #[.int .u8 0, .int .i64 0])) := by kernel_rfl
theorem HL (s : List UInt8) (x : Lx) (gx : Nat)  (w : World) (hb : Blk w gx 110 (Lx.cells s x)) (hA : x.at_ ≤ s.length) (hl : s.length ≤ 256) (hY : Lay0 w) (hgx : nGlob ≤ gx) :
 Calls prog 51 #[.pointer (some ⟨gx, 0, none⟩)] w fun e w' => e = .returned (.tuple #[]) ∧ Blk w' gx 110 (Lx.cells s (BJ s x)) ∧ Fr (fun k => k = gx) w w' := by
 have hGx : ∀ k, k = gx → nGlob ≤ k := fun _ e => e ▸ hgx
 obtain ⟨r, hr⟩ : ∃ r, NW (s.drop x.at_) = r := ⟨_, rfl⟩
 have hrl : r.length ≤ s.length := hr ▸ KF _ _
 refine BE (vs := [_]) func51 rfl ntmps51 rfl ?_
 have M : Mem w (fun k => k = gx) [As.blk gx 110 (Lx.cells s x)] w := Mem.one hb
 refine AF (DP 9 CZ (by kernel_rfl) ?_)
 have M := M.drew
 refine sb rfl (sb rfl (sb rfl (sd rfl rfl (M.cell 0 rfl rfl) (sb rfl (sb rfl (sb rfl (sd rfl rfl (M.cell 0 rfl rfl) (sa rfl (lA rfl rfl rfl underlying9 (by first | omega | (simp; omega))) (CS (B3 (some 20) (AA rfl) rfl rfl (AP rfl rfl call106) (eV _ hr) ?_))))))))))
 rintro _ _ ⟨rfl, rfl⟩
 refine ⟨_, rfl, yb rfl (nq (srg ?_))⟩
 iterate 4 refine yb rfl ?_
 refine yl rfl rfl (M.cell 0 rfl rfl) (ya rfl (GA rfl rfl underlying9) (yb rfl (ya rfl (GA rfl rfl underlying9) (ya rfl (EV rfl rfl rfl hrl (by omega)) (yb rfl (yb rfl (D0 (cs' := [str s, .int .i64 ((s.length - r.length : Nat) : Int), .int .u8 (x.nd.op.toNat : Int), .int .u8 (x.nd.vl.kind.toNat : Int), .int .i64 x.nd.vl.int, .bool x.nd.vl.bool, str x.nd.vl.text, str x.nd.nm, .slice none 0 0, str x.say, .int .i64 ((x.tat : Nat) : Int), .bool x.fin, .int .i64 x.e, .int .i64 ((x.wh : Nat) : Int)]) M 0 (AA rfl) rfl rfl rfl rfl rfl rfl rfl GQ (CO rfl) rfl fun w2 M => nq (srg ?_))))))))
 iterate 4 refine yb rfl ?_
 refine yl rfl rfl (M.cell 0 rfl rfl) (ya rfl (BA (parts := [(2, _), (3, _)]) rfl rfl (P7 _ _)) (yb rfl (yb rfl (D7 (cs' := [str s, .int .i64 ((s.length - r.length : Nat) : Int), .int .u8 0, .int .u8 0, .int .i64 0, .bool false, str [], str [], .slice none 0 0, str [], .int .i64 ((s.length - r.length : Nat) : Int), .bool true, .int .i64 x.e, .int .i64 ((x.wh : Nat) : Int)]) M 0 (AA rfl) rfl rfl rfl rfl rfl SR rfl (BS rfl) (BP rfl) rfl fun w3 M => nq (AF (srg (yb rfl (ya rfl (DM rfl rfl rfl) (yb rfl (DI 6 [(0, .pointer (some ⟨gx, 0, none⟩)), (2, str r), (48, .bool ((decide (r = [])) || (!decide (x.e = (0 : Int)))))] (fun w' => Mem w (fun k => k = gx) [As.blk gx 110 [str s, .int .i64 ((s.length - r.length : Nat) : Int), .int .u8 0, .int .u8 0, .int .i64 0, .bool false, str [], str [], .slice none 0 0, str [], .int .i64 ((s.length - r.length : Nat) : Int), .bool true, .int .i64 x.e, .int .i64 ((x.wh : Nat) : Int)]] w') ?_ (fun k42 => ?_)))))))))))
 ·intro w4 M
  refine nq (AL (b := ((decide (r = [])) || (!decide (x.e = (0 : Int))))) rfl (fun h48 => ?_) (fun h48 => ?_))
  ·have h48p := ((EO h48).imp (fun z => (odt z)) (fun z => (odf (CK z))))
   exact BN (AB (CM (Or.inl rfl) rfl ⟨rfl, by rw [KA hr, PI h48p]; exact M.blk 0 rfl, M.fr⟩))
  ·have h48p := (And.intro (odf (CP h48).1) (odt (BQ (CP h48).2)))
   have hrn : 0 < r.length := List.length_pos_iff.2 h48p.1
   refine AI (AD (srg ?_))
   iterate 4 refine yb rfl ?_
   refine D0 (cs' := [str s, .int .i64 ((s.length - r.length : Nat) : Int), .int .u8 0, .int .u8 0, .int .i64 0, .bool false, str [], str [], .slice none 0 0, str [], .int .i64 ((s.length - r.length : Nat) : Int), .bool false, .int .i64 x.e, .int .i64 ((x.wh : Nat) : Int)]) M 0 (AA rfl) rfl rfl rfl rfl rfl rfl rfl ZC (CO rfl) rfl fun w5 M => nq (srg (yb rfl ?_))
   obtain ⟨b, hb⟩ := CC (l := r) (i := 0) (by omega)
   refine ya rfl (GT rfl rfl rfl underlying9 hb) (yb rfl (nq (AS (srg (yb rfl (B3 (some 122) (AA rfl) rfl rfl (AP rfl rfl call107) (S7 _ _) ?_))))))
   rintro _ w6 ⟨rfl, hfw6⟩
   refine ⟨_, rfl, ?_⟩
   have M := M.step hfw6
   refine yb rfl (nq (AL (b := (D2 b)) rfl (fun h120 => ?_) (fun h120 => ?_)))
   ·refine srg (yb rfl (B3 (some 124) (AA rfl) rfl rfl (AP rfl rfl call108) (ZH D2 107 call107 S7 r _) ?_))
    rintro _ w7 ⟨rfl, hfw7⟩
    refine ⟨_, rfl, ?_⟩
    have M := M.step hfw7
    have hsp := OF D2 r
    have htl : (r.take (spanP D2 r)).length ≤ r.length := by rw [List.length_take]; omega
    have hpos : 0 < (r.take (spanP D2 r)).length := by have := TG (is := D2) hb (jW h120) h120; rw [List.length_take]; omega
    refine yb rfl (nq (srg (yb rfl (yb rfl (yb rfl (ya rfl (YZ rfl rfl rfl underlying9 (by first | omega | (simp; omega))) (B3 (some 129) (AA rfl) rfl rfl (AP rfl rfl call109) (iI s (⟨s.length - r.length, .zero, [], s.length - r.length, false, x.e, x.wh⟩ : Lx) _ _ _ (M.blk 0 rfl) (by first | omega | assumption) (by first | omega | assumption) (hY.fr M.fr hGx) hgx) ?_)))))))
    rintro _ w8 ⟨rfl, hbw8, hfw8⟩
    have M := M.putB 0 rfl hbw8 hfw8
    refine ⟨_, rfl, nq (AK (yb rfl (yb rfl (yb rfl (yl rfl rfl (M.cell 0 rfl rfl) (yb rfl (ya rfl (BO rfl rfl rfl (by first | omega | (simp only [OQ]; omega) | (simp only [LQ]; omega) | (simp only [GK]; omega))) (yb rfl (yb rfl (D0 (cs' := [str s, .int .i64 ((((I1 (r.take (spanP D2 r)) (⟨s.length - r.length, .zero, [], s.length - r.length, false, x.e, x.wh⟩ : Lx)).at_) + (spanP D2 r) : Nat) : Int), .int .u8 ((I1 (r.take (spanP D2 r)) (⟨s.length - r.length, .zero, [], s.length - r.length, false, x.e, x.wh⟩ : Lx)).nd.op.toNat : Int), .int .u8 ((I1 (r.take (spanP D2 r)) (⟨s.length - r.length, .zero, [], s.length - r.length, false, x.e, x.wh⟩ : Lx)).nd.vl.kind.toNat : Int), .int .i64 ((I1 (r.take (spanP D2 r)) (⟨s.length - r.length, .zero, [], s.length - r.length, false, x.e, x.wh⟩ : Lx)).nd.vl.int), .bool ((I1 (r.take (spanP D2 r)) (⟨s.length - r.length, .zero, [], s.length - r.length, false, x.e, x.wh⟩ : Lx)).nd.vl.bool), str ((I1 (r.take (spanP D2 r)) (⟨s.length - r.length, .zero, [], s.length - r.length, false, x.e, x.wh⟩ : Lx)).nd.vl.text), str ((I1 (r.take (spanP D2 r)) (⟨s.length - r.length, .zero, [], s.length - r.length, false, x.e, x.wh⟩ : Lx)).nd.nm), .slice none 0 0, str ((I1 (r.take (spanP D2 r)) (⟨s.length - r.length, .zero, [], s.length - r.length, false, x.e, x.wh⟩ : Lx)).say), .int .i64 (((I1 (r.take (spanP D2 r)) (⟨s.length - r.length, .zero, [], s.length - r.length, false, x.e, x.wh⟩ : Lx)).tat : Nat) : Int), .bool ((I1 (r.take (spanP D2 r)) (⟨s.length - r.length, .zero, [], s.length - r.length, false, x.e, x.wh⟩ : Lx)).fin), .int .i64 ((I1 (r.take (spanP D2 r)) (⟨s.length - r.length, .zero, [], s.length - r.length, false, x.e, x.wh⟩ : Lx)).e), .int .i64 (((I1 (r.take (spanP D2 r)) (⟨s.length - r.length, .zero, [], s.length - r.length, false, x.e, x.wh⟩ : Lx)).wh : Nat) : Int)]) M 0 (AA rfl) rfl rfl rfl rfl rfl rfl rfl GQ (CO rfl) rfl fun w9 M => AR (AE ?_)))))))))))⟩
    exact CM (Or.inr rfl) rfl ⟨rfl, by rw [KA hr, TL h48p hb h120]; exact M.blk 0 rfl, M.fr⟩
   ·refine srg (yb rfl (B3 (some 140) (AA rfl) rfl rfl (AP rfl rfl call110) (TO _ _) ?_))
    rintro _ w10 ⟨rfl, hfw10⟩
    refine ⟨_, rfl, ?_⟩
    have M := M.step hfw10
    refine yb rfl (nq (AL (b := (EX b)) rfl (fun h138 => ?_) (fun h138 => ?_)))
    ·refine srg (yb rfl (B3 (some 142) (AA rfl) rfl rfl (AP rfl rfl call108) (ZH DK 111 call111 cU r _) ?_))
     rintro _ w11 ⟨rfl, hfw11⟩
     refine ⟨_, rfl, ?_⟩
     have M := M.step hfw11
     have hsp := OF DK r
     have htl : (r.take (spanP DK r)).length ≤ r.length := by rw [List.length_take]; omega
     refine yb rfl (nq (srg (yb rfl (yb rfl (yb rfl (ya rfl (YZ rfl rfl rfl underlying9 (by first | omega | (simp; omega))) (B3 (some 147) (AA rfl) rfl rfl (AP rfl rfl call112) (cJ s (⟨s.length - r.length, .zero, [], s.length - r.length, false, x.e, x.wh⟩ : Lx) _ _ _ (M.blk 0 rfl) (by first | omega | assumption)) ?_)))))))
     rintro _ w12 ⟨rfl, hbw12, hfw12⟩
     have M := M.putB 0 rfl hbw12 hfw12
     refine ⟨_, rfl, nq (AK (yb rfl (yb rfl (yb rfl (yl rfl rfl (M.cell 0 rfl rfl) (yb rfl (ya rfl (BO rfl rfl rfl (by first | omega | (simp only [OQ]; omega) | (simp only [LQ]; omega) | (simp only [GK]; omega))) (yb rfl (yb rfl (D0 (cs' := [str s, .int .i64 ((((FM (r.take (spanP DK r)) (⟨s.length - r.length, .zero, [], s.length - r.length, false, x.e, x.wh⟩ : Lx)).at_) + (spanP DK r) : Nat) : Int), .int .u8 ((FM (r.take (spanP DK r)) (⟨s.length - r.length, .zero, [], s.length - r.length, false, x.e, x.wh⟩ : Lx)).nd.op.toNat : Int), .int .u8 ((FM (r.take (spanP DK r)) (⟨s.length - r.length, .zero, [], s.length - r.length, false, x.e, x.wh⟩ : Lx)).nd.vl.kind.toNat : Int), .int .i64 ((FM (r.take (spanP DK r)) (⟨s.length - r.length, .zero, [], s.length - r.length, false, x.e, x.wh⟩ : Lx)).nd.vl.int), .bool ((FM (r.take (spanP DK r)) (⟨s.length - r.length, .zero, [], s.length - r.length, false, x.e, x.wh⟩ : Lx)).nd.vl.bool), str ((FM (r.take (spanP DK r)) (⟨s.length - r.length, .zero, [], s.length - r.length, false, x.e, x.wh⟩ : Lx)).nd.vl.text), str ((FM (r.take (spanP DK r)) (⟨s.length - r.length, .zero, [], s.length - r.length, false, x.e, x.wh⟩ : Lx)).nd.nm), .slice none 0 0, str ((FM (r.take (spanP DK r)) (⟨s.length - r.length, .zero, [], s.length - r.length, false, x.e, x.wh⟩ : Lx)).say), .int .i64 (((FM (r.take (spanP DK r)) (⟨s.length - r.length, .zero, [], s.length - r.length, false, x.e, x.wh⟩ : Lx)).tat : Nat) : Int), .bool ((FM (r.take (spanP DK r)) (⟨s.length - r.length, .zero, [], s.length - r.length, false, x.e, x.wh⟩ : Lx)).fin), .int .i64 ((FM (r.take (spanP DK r)) (⟨s.length - r.length, .zero, [], s.length - r.length, false, x.e, x.wh⟩ : Lx)).e), .int .i64 (((FM (r.take (spanP DK r)) (⟨s.length - r.length, .zero, [], s.length - r.length, false, x.e, x.wh⟩ : Lx)).wh : Nat) : Int)]) M 0 (AA rfl) rfl rfl rfl rfl rfl rfl rfl GQ (CO rfl) rfl fun w13 M => AR (AE ?_)))))))))))⟩
     exact CM (Or.inr rfl) rfl ⟨rfl, by rw [KA hr, RM h48p hb h120 h138]; exact M.blk 0 rfl, M.fr⟩
    ·refine srg (yb rfl (ya rfl (BZ rfl rfl rfl) (yb rfl (nq (AL (b := (decide ((b.toNat : Int) = (39 : Int)))) rfl (fun h156 => ?_) (fun h156 => ?_))))))
     ·have h156p := (odt h156)
      refine AK (yb rfl (yb rfl (B3 (some 161) (AA rfl) rfl rfl (AP rfl rfl call113) (cK s (⟨s.length - r.length, .zero, [], s.length - r.length, false, x.e, x.wh⟩ : Lx) _ _ _ (M.blk 0 rfl) (by first | omega | assumption) (by first | omega | assumption | (dsimp only; omega)) (hY.fr M.fr hGx) hgx) ?_)))
      rintro _ w14 ⟨rfl, hbw14, hfw14⟩
      have M := M.putB 0 rfl hbw14 hfw14
      exact ⟨_, rfl, AR (AE (CM (Or.inr rfl) rfl ⟨rfl, by rw [KA hr, RN h48p hb h120 h138 h156p]; exact M.blk 0 rfl, M.fr⟩))⟩
     ·have h156p := (odf h156)
      have hsg := ZJ h48p.1
      have hsg2 := fZ r
      refine srg (yb rfl (nq (AF (AF (OD (fun (g7 : Nat) (g56 : Nat) => [(0, .pointer (some ⟨gx, 0, none⟩)), (2, str r), (6, .int .i64 1), (8, .bool ((AW (r.take (min 2 r.length))).isSome))]) (fun (g7 : Nat) (g56 : Nat) => fun w' => Mem w (fun k => k = gx) [As.blk g7 116 [.int .u8 (((AW (r.take (min 2 r.length))).getD (0, 0)).1.toNat : Int), .int .i64 ((((AW (r.take (min 2 r.length))).getD (0, 0)).2 : Nat) : Int)], As.mp g56 E5, As.blk gx 110 [str s, .int .i64 ((s.length - r.length : Nat) : Int), .int .u8 0, .int .u8 0, .int .i64 0, .bool false, str [], str [], .slice none 0 0, str [], .int .i64 ((s.length - r.length : Nat) : Int), .bool false, .int .i64 x.e, .int .i64 ((x.wh : Nat) : Int)]] w') ?_ (fun kr7 => ?_))))))
      ·intro g7 g56 w15 M
       refine AD (srg (yb rfl (yb rfl (DI 4 [(0, .pointer (some ⟨gx, 0, none⟩)), (2, str r), (6, .int .i64 1), (70, .bool ((AW (r.take (min 2 r.length))).isSome && (decide ((1 : Int) < ((r.length : Nat) : Int)))))] (fun w' => Mem w (fun k => k = gx) [As.blk g7 116 [.int .u8 (((AW (r.take (min 2 r.length))).getD (0, 0)).1.toNat : Int), .int .i64 ((((AW (r.take (min 2 r.length))).getD (0, 0)).2 : Nat) : Int)], As.mp g56 E5, As.blk gx 110 [str s, .int .i64 ((s.length - r.length : Nat) : Int), .int .u8 0, .int .u8 0, .int .i64 0, .bool false, str [], str [], .slice none 0 0, str [], .int .i64 ((s.length - r.length : Nat) : Int), .bool false, .int .i64 x.e, .int .i64 ((x.wh : Nat) : Int)]] w') ?_ (fun k66 => ?_)))))
       ·intro w16 M
        refine nq (JP [(0, .pointer (some ⟨gx, 0, none⟩)), (2, str r), (6, .int .i64 ((sgnN r : Nat) : Int))] (fun w' => Mem w (fun k => k = gx) [As.blk g7 116 [.int .u8 (((AW (r.take (min 2 r.length))).getD (0, 0)).1.toNat : Int), .int .i64 ((((AW (r.take (min 2 r.length))).getD (0, 0)).2 : Nat) : Int)], As.mp g56 E5, As.blk gx 110 [str s, .int .i64 ((s.length - r.length : Nat) : Int), .int .u8 0, .int .u8 0, .int .i64 0, .bool false, str [], str [], .slice none 0 0, str [], .int .i64 ((s.length - r.length : Nat) : Int), .bool false, .int .i64 x.e, .int .i64 ((x.wh : Nat) : Int)]] w') ?_ (fun k70 => ?_))
        ·intro w17 M
         refine AD (srg (yb rfl (yb rfl (yb rfl (ya rfl (YZ rfl rfl rfl underlying9 (by first | omega | (simp; omega))) (yb rfl (yb rfl (yb rfl (D0 (cs' := [str s, .int .i64 ((s.length - r.length : Nat) : Int), .int .u8 0, .int .u8 0, .int .i64 0, .bool false, str [], str [], .slice none 0 0, str (r.take (sgnN r)), .int .i64 ((s.length - r.length : Nat) : Int), .bool false, .int .i64 x.e, .int .i64 ((x.wh : Nat) : Int)]) M 2 (AA rfl) rfl rfl rfl rfl rfl rfl rfl G5 (CO rfl) rfl fun w18 M => nq (AF (AF ?_)))))))))))
         refine OD (fun (g9 : Nat) (g79 : Nat) => [(0, .pointer (some ⟨gx, 0, none⟩)), (6, .int .i64 ((sgnN r : Nat) : Int)), (10, .bool ((AW (r.take (sgnN r))).isSome))]) (fun (g9 : Nat) (g79 : Nat) => fun w' => Mem w (fun k => k = gx) [As.blk g9 116 [.int .u8 (((AW (r.take (sgnN r))).getD (0, 0)).1.toNat : Int), .int .i64 ((((AW (r.take (sgnN r))).getD (0, 0)).2 : Nat) : Int)], As.mp g79 E5, As.blk g7 116 [.int .u8 (((AW (r.take (min 2 r.length))).getD (0, 0)).1.toNat : Int), .int .i64 ((((AW (r.take (min 2 r.length))).getD (0, 0)).2 : Nat) : Int)], As.mp g56 E5, As.blk gx 110 [str s, .int .i64 ((s.length - r.length : Nat) : Int), .int .u8 0, .int .u8 0, .int .i64 0, .bool false, str [], str [], .slice none 0 0, str (r.take (sgnN r)), .int .i64 ((s.length - r.length : Nat) : Int), .bool false, .int .i64 x.e, .int .i64 ((x.wh : Nat) : Int)]] w') ?_ (fun kr11 => ?_)
         ·intro g9 g79 w19 M
          refine AD (srg (yb rfl (yb rfl (yb rfl (DI 7 [(0, .pointer (some ⟨gx, 0, none⟩)), (6, .int .i64 ((sgnN r : Nat) : Int)), (97, .bool ((!(AW (r.take (sgnN r))).isSome) && (!decide ((r.take (sgnN r)) = [40]))))] (fun w' => Mem w (fun k => k = gx) [As.blk g9 116 [.int .u8 (((AW (r.take (sgnN r))).getD (0, 0)).1.toNat : Int), .int .i64 ((((AW (r.take (sgnN r))).getD (0, 0)).2 : Nat) : Int)], As.mp g79 E5, As.blk g7 116 [.int .u8 (((AW (r.take (min 2 r.length))).getD (0, 0)).1.toNat : Int), .int .i64 ((((AW (r.take (min 2 r.length))).getD (0, 0)).2 : Nat) : Int)], As.mp g56 E5, As.blk gx 110 [str s, .int .i64 ((s.length - r.length : Nat) : Int), .int .u8 0, .int .u8 0, .int .i64 0, .bool false, str [], str [], .slice none 0 0, str (r.take (sgnN r)), .int .i64 ((s.length - r.length : Nat) : Int), .bool false, .int .i64 x.e, .int .i64 ((x.wh : Nat) : Int)]] w') ?_ (fun k90 => ?_))))))
          ·intro w20 M
           refine yb rfl (DI 7 [(0, .pointer (some ⟨gx, 0, none⟩)), (6, .int .i64 ((sgnN r : Nat) : Int)), (105, .bool (((!(AW (r.take (sgnN r))).isSome) && (!decide ((r.take (sgnN r)) = [40]))) && (!decide ((r.take (sgnN r)) = [41]))))] (fun w' => Mem w (fun k => k = gx) [As.blk g9 116 [.int .u8 (((AW (r.take (sgnN r))).getD (0, 0)).1.toNat : Int), .int .i64 ((((AW (r.take (sgnN r))).getD (0, 0)).2 : Nat) : Int)], As.mp g79 E5, As.blk g7 116 [.int .u8 (((AW (r.take (min 2 r.length))).getD (0, 0)).1.toNat : Int), .int .i64 ((((AW (r.take (min 2 r.length))).getD (0, 0)).2 : Nat) : Int)], As.mp g56 E5, As.blk gx 110 [str s, .int .i64 ((s.length - r.length : Nat) : Int), .int .u8 0, .int .u8 0, .int .i64 0, .bool false, str [], str [], .slice none 0 0, str (r.take (sgnN r)), .int .i64 ((s.length - r.length : Nat) : Int), .bool false, .int .i64 x.e, .int .i64 ((x.wh : Nat) : Int)]] w') ?_ (fun k98 => ?_))
           ·intro w21 M
            refine nq (AL (b := (((!(AW (r.take (sgnN r))).isSome) && (!decide ((r.take (sgnN r)) = [40]))) && (!decide ((r.take (sgnN r)) = [41])))) rfl (fun h105 => ?_) (fun h105 => ?_))
            ·have h105p := (And.intro (And.intro (CK (CL (CL h105).1).1) (odf (CK (CL (CL h105).1).2))) (odf (CK (CL h105).2)))
             refine AK ?_
             iterate 4 refine yb rfl ?_
             refine yl rfl rfl (M.cell 4 rfl rfl) (B3 (some 111) (AA rfl) rfl rfl (AP rfl rfl call54) (FT s (⟨s.length - r.length, .zero, (r.take (sgnN r)), s.length - r.length, false, x.e, x.wh⟩ : Lx) _ _ _ _ (M.blk 4 rfl)) ?_)
             rintro _ w22 ⟨rfl, hbw22, hfw22⟩
             have M := M.putB 4 rfl hbw22 hfw22
             refine ⟨_, rfl, nq (AK (yb rfl (yb rfl (yb rfl (yl rfl rfl (M.cell 4 rfl rfl) (yb rfl (ya rfl (BO rfl rfl rfl (by first | omega | (simp only [OQ]; omega) | (simp only [LQ]; omega) | (simp only [GK]; omega))) (yb rfl (yb rfl (D0 (cs' := [str s, .int .i64 (((((⟨s.length - r.length, .zero, (r.take (sgnN r)), s.length - r.length, false, x.e, x.wh⟩ : Lx).fail 4 (s.length - r.length)).at_) + (sgnN r) : Nat) : Int), .int .u8 (((⟨s.length - r.length, .zero, (r.take (sgnN r)), s.length - r.length, false, x.e, x.wh⟩ : Lx).fail 4 (s.length - r.length)).nd.op.toNat : Int), .int .u8 (((⟨s.length - r.length, .zero, (r.take (sgnN r)), s.length - r.length, false, x.e, x.wh⟩ : Lx).fail 4 (s.length - r.length)).nd.vl.kind.toNat : Int), .int .i64 (((⟨s.length - r.length, .zero, (r.take (sgnN r)), s.length - r.length, false, x.e, x.wh⟩ : Lx).fail 4 (s.length - r.length)).nd.vl.int), .bool (((⟨s.length - r.length, .zero, (r.take (sgnN r)), s.length - r.length, false, x.e, x.wh⟩ : Lx).fail 4 (s.length - r.length)).nd.vl.bool), str (((⟨s.length - r.length, .zero, (r.take (sgnN r)), s.length - r.length, false, x.e, x.wh⟩ : Lx).fail 4 (s.length - r.length)).nd.vl.text), str (((⟨s.length - r.length, .zero, (r.take (sgnN r)), s.length - r.length, false, x.e, x.wh⟩ : Lx).fail 4 (s.length - r.length)).nd.nm), .slice none 0 0, str (((⟨s.length - r.length, .zero, (r.take (sgnN r)), s.length - r.length, false, x.e, x.wh⟩ : Lx).fail 4 (s.length - r.length)).say), .int .i64 ((((⟨s.length - r.length, .zero, (r.take (sgnN r)), s.length - r.length, false, x.e, x.wh⟩ : Lx).fail 4 (s.length - r.length)).tat : Nat) : Int), .bool (((⟨s.length - r.length, .zero, (r.take (sgnN r)), s.length - r.length, false, x.e, x.wh⟩ : Lx).fail 4 (s.length - r.length)).fin), .int .i64 (((⟨s.length - r.length, .zero, (r.take (sgnN r)), s.length - r.length, false, x.e, x.wh⟩ : Lx).fail 4 (s.length - r.length)).e), .int .i64 ((((⟨s.length - r.length, .zero, (r.take (sgnN r)), s.length - r.length, false, x.e, x.wh⟩ : Lx).fail 4 (s.length - r.length)).wh : Nat) : Int)]) M 4 (AA rfl) rfl rfl rfl rfl rfl rfl rfl GQ (CO rfl) rfl fun w23 M => AR (AE ?_)))))))))))⟩
             exact CM (Or.inr rfl) rfl ⟨rfl, by rw [KA hr, TM h48p hb h120 h138 h156p h105]; exact M.blk 4 rfl, M.fr⟩
            ·have h105p := ((DT h105).imp (fun z => ((DT z).imp (fun z => (BQ z)) (fun z => (odt (BQ z))))) (fun z => (odt (BQ z))))
             refine AI (AD (AK (yb rfl (yb rfl (yb rfl (yl rfl rfl (M.cell 4 rfl rfl) (yb rfl (ya rfl (BO rfl rfl rfl (by first | omega | (simp only [OQ]; omega) | (simp only [LQ]; omega) | (simp only [GK]; omega))) (yb rfl (yb rfl (D0 (cs' := [str s, .int .i64 (((s.length - r.length) + (sgnN r) : Nat) : Int), .int .u8 0, .int .u8 0, .int .i64 0, .bool false, str [], str [], .slice none 0 0, str (r.take (sgnN r)), .int .i64 ((s.length - r.length : Nat) : Int), .bool false, .int .i64 x.e, .int .i64 ((x.wh : Nat) : Int)]) M 4 (AA rfl) rfl rfl rfl rfl rfl rfl rfl GQ (CO rfl) rfl fun w24 M => AR (AE (CM (Or.inr rfl) rfl ?_)))))))))))))
             exact ⟨rfl, by rw [KA hr, RO h48p hb h120 h138 h156p h105]; exact M.blk 4 rfl, M.fr⟩
           refine AO (d := 98) (b := ((!(AW (r.take (sgnN r))).isSome) && (!decide ((r.take (sgnN r)) = [40])))) rfl (fun h98 => ?_) (fun h98 => ?_)
           ·iterate 4 refine yd rfl (yp rfl) ?_
            exact ym rfl rfl (M.cell 4 rfl rfl) (yd rfl (FP rfl rfl rfl) (yb rfl (k98 _ _ M ⟨rfl, rfl, (by rw [h98]; rfl), trivial⟩)))
           ·iterate 6 refine yo rfl ?_
            exact yb rfl (k98 _ _ M ⟨rfl, rfl, (by rw [h98]; rfl), trivial⟩)
          refine AO (d := 90) (b := (!(AW (r.take (sgnN r))).isSome)) rfl (fun h90 => ?_) (fun h90 => ?_)
          ·iterate 4 refine yd rfl (yp rfl) ?_
           exact ym rfl rfl (M.cell 4 rfl rfl) (yd rfl (FP rfl rfl rfl) (yb rfl (k90 _ _ M ⟨rfl, rfl, (by rw [h90]; rfl), trivial⟩)))
          ·iterate 6 refine yo rfl ?_
           exact yb rfl (k90 _ _ M ⟨rfl, rfl, (by rw [h90]; rfl), trivial⟩)
         refine CV 13 (fun w' => Mem w (fun k => k = gx) [As.blk g7 116 [.int .u8 (((AW (r.take (min 2 r.length))).getD (0, 0)).1.toNat : Int), .int .i64 ((((AW (r.take (min 2 r.length))).getD (0, 0)).2 : Nat) : Int)], As.mp g56 E5, As.blk gx 110 [str s, .int .i64 ((s.length - r.length : Nat) : Int), .int .u8 0, .int .u8 0, .int .i64 0, .bool false, str [], str [], .slice none 0 0, str (r.take (sgnN r)), .int .i64 ((s.length - r.length : Nat) : Int), .bool false, .int .i64 x.e, .int .i64 ((x.wh : Nat) : Int)]] w') CZ ?_
         have M := M.drew
         refine oc 1 13 rfl rfl M (oc 2 13 rfl rfl M (oc 3 13 rfl rfl M (oc 4 13 rfl rfl M (ol 5 13 rfl rfl rfl M (fun _ M => (M.cell 2 rfl rfl)) (GX (rs := [0, 10]) (by kernel_rfl) (by simp) fun iz hiz => ?_)))))
         simp only [List.mem_cons, List.not_mem_nil, or_false] at hiz
         rcases hiz with rfl | rfl
         ·refine JQ (some 79) rfl (AA rfl) rfl rfl (AP rfl rfl call58) (II _) ?_
          rintro _ w25 ⟨g79, rfl, hMw25, hgw25, hfw25⟩
          refine ⟨_, rfl, fun _ => M.step hfw25, ?_⟩
          have M := M.push hfw25 (As.mp g79 E5) hMw25 (M7 hgw25 hMw25.lt)
          refine GX (rs := [6, 10]) (by kernel_rfl) (by simp) fun iz hiz => ?_
          simp only [List.mem_cons, List.not_mem_nil, or_false] at hiz
          rcases hiz with rfl | rfl
          ·refine ET (some 85) rfl (AA rfl) rfl rfl (aF (E6 rfl rfl rfl underlying118 underlying9 CD (M.mp 0 rfl) (FD _) (HR _))) ?_
           rintro _ _ ⟨rfl, rfl⟩
           refine ⟨fun _ => (M.drop 1), oc 7 13 rfl rfl (M.drop 1) (oc 8 13 rfl rfl (M.drop 1) (oc 9 13 rfl rfl (M.drop 1) (BB 10 (some 9) (by kernel_rfl) rfl (AA rfl) rfl rfl (fun ρ hρ => D9 116 rfl _ [.int .u8 0, .int .i64 0] CD rfl) ?_)))⟩
           rintro _ w26 ⟨g9, rfl, hg9, hq9, hb9, hfw26⟩
           refine ⟨fun _ => (M.drop 1).step hfw26, ?_⟩
           have M := M.push hfw26 _ hb9 (EB hg9 hq9)
           replace M : Mem w (fun k => k = gx) (As.blk g9 116 [.int .u8 0, .int .i64 0] :: _) w26 := M
           refine BB 11 none (by kernel_rfl) rfl (AA rfl) rfl rfl (fun ρ hρ => C2 116 _ _ rfl g9 0 116 _ ([.int .u8 (((AW (r.take (sgnN r))).getD (0, 0)).1.toNat : Int), .int .i64 ((((AW (r.take (sgnN r))).getD (0, 0)).2 : Nat) : Int)]) (hρ _ _ rfl) (hρ _ _ rfl) (M.blk 0 rfl) E2 (BS rfl) (BP rfl)) ?_
           rintro _ w27 ⟨rfl, hbw27, hfw27⟩
           replace M : Mem w (fun k => k = gx) (List.set _ 0 (As.blk g9 116 [.int .u8 (((AW (r.take (sgnN r))).getD (0, 0)).1.toNat : Int), .int .i64 ((((AW (r.take (sgnN r))).getD (0, 0)).2 : Nat) : Int)])) w27 := M.putB 0 rfl hbw27 hfw27
           exact ⟨fun _ => M.drop 2, oc 12 13 rfl rfl (M.drop 2) (EQ (by kernel_rfl) (kr11 g9 g79 _ _ M ⟨rfl, rfl, rfl, trivial⟩))⟩
          ·refine ET (some 9) rfl (AA rfl) rfl rfl (fun ρ hρ => D9 116 rfl _ [.int .u8 0, .int .i64 0] CD rfl) ?_
           rintro _ w28 ⟨g9, rfl, hg9, hq9, hb9, hfw28⟩
           refine ⟨fun _ => (M.drop 1).step hfw28, ?_⟩
           have M := M.push hfw28 _ hb9 (EB hg9 hq9)
           replace M : Mem w (fun k => k = gx) (As.blk g9 116 [.int .u8 0, .int .i64 0] :: _) w28 := M
           refine DW 6 (by kernel_rfl) rfl (AA rfl) rfl rfl (E6 rfl rfl rfl underlying118 underlying9 CD (M.mp 1 rfl) (FD _) (HR _)) (M.drop 2) (oc 7 13 rfl rfl (M.drop 2) (oc 8 13 rfl rfl (M.drop 2) (oc 9 13 rfl rfl (M.drop 2) (BB 11 none (by kernel_rfl) rfl (AA rfl) rfl rfl (fun ρ hρ => C2 116 _ _ rfl g9 0 116 _ ([.int .u8 (((AW (r.take (sgnN r))).getD (0, 0)).1.toNat : Int), .int .i64 ((((AW (r.take (sgnN r))).getD (0, 0)).2 : Nat) : Int)]) (hρ _ _ rfl) (hρ _ _ rfl) (M.blk 0 rfl) E2 (BS rfl) (BP rfl)) ?_))))
           rintro _ w29 ⟨rfl, hbw29, hfw29⟩
           replace M : Mem w (fun k => k = gx) (List.set _ 0 (As.blk g9 116 [.int .u8 (((AW (r.take (sgnN r))).getD (0, 0)).1.toNat : Int), .int .i64 ((((AW (r.take (sgnN r))).getD (0, 0)).2 : Nat) : Int)])) w29 := M.putB 0 rfl hbw29 hfw29
           exact ⟨fun _ => M.drop 2, oc 12 13 rfl rfl (M.drop 2) (EQ (by kernel_rfl) (kr11 g9 g79 _ _ M ⟨rfl, rfl, rfl, trivial⟩))⟩
         ·refine ET (some 9) rfl (AA rfl) rfl rfl (fun ρ hρ => D9 116 rfl _ [.int .u8 0, .int .i64 0] CD rfl) ?_
          rintro _ w30 ⟨g9, rfl, hg9, hq9, hb9, hfw30⟩
          refine ⟨fun _ => M.step hfw30, ?_⟩
          have M := M.push hfw30 _ hb9 (EB hg9 hq9)
          replace M : Mem w (fun k => k = gx) (As.blk g9 116 [.int .u8 0, .int .i64 0] :: _) w30 := M
          refine C7 0 (some 79) (by kernel_rfl) rfl (AA rfl) rfl rfl (AP rfl rfl call58) (II _) ?_
          rintro _ w31 ⟨g79, rfl, hMw31, hgw31, hfw31⟩
          refine ⟨_, rfl, fun _ => (M.drop 1).step hfw31, ?_⟩
          have M := M.push hfw31 (As.mp g79 E5) hMw31 (M7 hgw31 hMw31.lt)
          refine DW 6 (by kernel_rfl) rfl (AA rfl) rfl rfl (E6 rfl rfl rfl underlying118 underlying9 CD (M.mp 0 rfl) (FD _) (HR _)) (M.drop 2) (oc 7 13 rfl rfl (M.drop 2) (oc 8 13 rfl rfl (M.drop 2) (oc 9 13 rfl rfl (M.drop 2) (BB 11 none (by kernel_rfl) rfl (AA rfl) rfl rfl (fun ρ hρ => C2 116 _ _ rfl g9 0 116 _ ([.int .u8 (((AW (r.take (sgnN r))).getD (0, 0)).1.toNat : Int), .int .i64 ((((AW (r.take (sgnN r))).getD (0, 0)).2 : Nat) : Int)]) (hρ _ _ rfl) (hρ _ _ rfl) (M.blk 1 rfl) E2 (BS rfl) (BP rfl)) ?_))))
          rintro _ w32 ⟨rfl, hbw32, hfw32⟩
          replace M : Mem w (fun k => k = gx) (List.set _ 1 (As.blk g9 116 [.int .u8 (((AW (r.take (sgnN r))).getD (0, 0)).1.toNat : Int), .int .i64 ((((AW (r.take (sgnN r))).getD (0, 0)).2 : Nat) : Int)])) w32 := M.putB 1 rfl hbw32 hfw32
          exact ⟨fun _ => M.drop 2, oc 12 13 rfl rfl (M.drop 2) (EQ (by kernel_rfl) (kr11 g9 g79 _ _ (M.pick [1, 0, 2, 3, 4] (by decide)) ⟨rfl, rfl, rfl, trivial⟩))⟩
        refine AL (b := ((AW (r.take (min 2 r.length))).isSome && (decide ((1 : Int) < ((r.length : Nat) : Int))))) rfl (fun h70 => ?_) (fun h70 => ?_)
        ·exact AK (yb rfl (AR (k70 _ _ M ⟨rfl, rfl, (by unfold sgnN; rw [h70]; rfl), trivial⟩)))
        ·exact AI (k70 _ _ M ⟨rfl, rfl, (by unfold sgnN; rw [h70]; rfl), trivial⟩)
       refine AO (d := 66) (b := (AW (r.take (min 2 r.length))).isSome) rfl (fun h66 => ?_) (fun h66 => ?_)
       ·exact yd rfl (yp rfl) (yd rfl (GA rfl rfl underlying9) (yd rfl (GC rfl rfl rfl) (yb rfl (k66 _ _ M ⟨rfl, rfl, rfl, (by rw [h66]; rfl), trivial⟩))))
       ·exact yo rfl (yo rfl (yo rfl (yb rfl (k66 _ _ M ⟨rfl, rfl, rfl, (by rw [h66]; rfl), trivial⟩))))
      refine CV 13 (fun w' => Mem w (fun k => k = gx) [As.blk gx 110 [str s, .int .i64 ((s.length - r.length : Nat) : Int), .int .u8 0, .int .u8 0, .int .i64 0, .bool false, str [], str [], .slice none 0 0, str [], .int .i64 ((s.length - r.length : Nat) : Int), .bool false, .int .i64 x.e, .int .i64 ((x.wh : Nat) : Int)]] w') CZ ?_
      have M := M.drew
      refine oc 1 13 rfl rfl M (oc 2 13 rfl rfl M (oa 3 13 rfl rfl M (fun _ M => GA rfl rfl underlying9) (oa 4 13 rfl rfl M (fun _ M => pD rfl rfl rfl) (oa 5 13 rfl rfl M (fun _ M => YZ rfl rfl rfl underlying9 (by first | omega | (simp; omega))) (GX (rs := [0, 10]) (by kernel_rfl) (by simp) fun iz hiz => ?_)))))
      simp only [List.mem_cons, List.not_mem_nil, or_false] at hiz
      rcases hiz with rfl | rfl
      ·refine JQ (some 56) rfl (AA rfl) rfl rfl (AP rfl rfl call58) (II _) ?_
       rintro _ w33 ⟨g56, rfl, hMw33, hgw33, hfw33⟩
       refine ⟨_, rfl, fun _ => M.step hfw33, ?_⟩
       have M := M.push hfw33 (As.mp g56 E5) hMw33 (M7 hgw33 hMw33.lt)
       refine GX (rs := [6, 10]) (by kernel_rfl) (by simp) fun iz hiz => ?_
       simp only [List.mem_cons, List.not_mem_nil, or_false] at hiz
       rcases hiz with rfl | rfl
       ·refine ET (some 62) rfl (AA rfl) rfl rfl (aF (E6 rfl rfl rfl underlying118 underlying9 CD (M.mp 0 rfl) (FD _) (HR _))) ?_
        rintro _ _ ⟨rfl, rfl⟩
        refine ⟨fun _ => (M.drop 1), oc 7 13 rfl rfl (M.drop 1) (oc 8 13 rfl rfl (M.drop 1) (oc 9 13 rfl rfl (M.drop 1) (BB 10 (some 7) (by kernel_rfl) rfl (AA rfl) rfl rfl (fun ρ hρ => D9 116 rfl _ [.int .u8 0, .int .i64 0] CD rfl) ?_)))⟩
        rintro _ w34 ⟨g7, rfl, hg7, hq7, hb7, hfw34⟩
        refine ⟨fun _ => (M.drop 1).step hfw34, ?_⟩
        have M := M.push hfw34 _ hb7 (EB hg7 hq7)
        replace M : Mem w (fun k => k = gx) (As.blk g7 116 [.int .u8 0, .int .i64 0] :: _) w34 := M
        refine BB 11 none (by kernel_rfl) rfl (AA rfl) rfl rfl (fun ρ hρ => C2 116 _ _ rfl g7 0 116 _ ([.int .u8 (((AW (r.take (min 2 r.length))).getD (0, 0)).1.toNat : Int), .int .i64 ((((AW (r.take (min 2 r.length))).getD (0, 0)).2 : Nat) : Int)]) (hρ _ _ rfl) (hρ _ _ rfl) (M.blk 0 rfl) E2 (BS rfl) (BP rfl)) ?_
        rintro _ w35 ⟨rfl, hbw35, hfw35⟩
        replace M : Mem w (fun k => k = gx) (List.set _ 0 (As.blk g7 116 [.int .u8 (((AW (r.take (min 2 r.length))).getD (0, 0)).1.toNat : Int), .int .i64 ((((AW (r.take (min 2 r.length))).getD (0, 0)).2 : Nat) : Int)])) w35 := M.putB 0 rfl hbw35 hfw35
        exact ⟨fun _ => M.drop 2, oc 12 13 rfl rfl (M.drop 2) (EQ (by kernel_rfl) (kr7 g7 g56 _ _ M ⟨rfl, rfl, rfl, rfl, trivial⟩))⟩
       ·refine ET (some 7) rfl (AA rfl) rfl rfl (fun ρ hρ => D9 116 rfl _ [.int .u8 0, .int .i64 0] CD rfl) ?_
        rintro _ w36 ⟨g7, rfl, hg7, hq7, hb7, hfw36⟩
        refine ⟨fun _ => (M.drop 1).step hfw36, ?_⟩
        have M := M.push hfw36 _ hb7 (EB hg7 hq7)
        replace M : Mem w (fun k => k = gx) (As.blk g7 116 [.int .u8 0, .int .i64 0] :: _) w36 := M
        refine DW 6 (by kernel_rfl) rfl (AA rfl) rfl rfl (E6 rfl rfl rfl underlying118 underlying9 CD (M.mp 1 rfl) (FD _) (HR _)) (M.drop 2) (oc 7 13 rfl rfl (M.drop 2) (oc 8 13 rfl rfl (M.drop 2) (oc 9 13 rfl rfl (M.drop 2) (BB 11 none (by kernel_rfl) rfl (AA rfl) rfl rfl (fun ρ hρ => C2 116 _ _ rfl g7 0 116 _ ([.int .u8 (((AW (r.take (min 2 r.length))).getD (0, 0)).1.toNat : Int), .int .i64 ((((AW (r.take (min 2 r.length))).getD (0, 0)).2 : Nat) : Int)]) (hρ _ _ rfl) (hρ _ _ rfl) (M.blk 0 rfl) E2 (BS rfl) (BP rfl)) ?_))))
        rintro _ w37 ⟨rfl, hbw37, hfw37⟩
        replace M : Mem w (fun k => k = gx) (List.set _ 0 (As.blk g7 116 [.int .u8 (((AW (r.take (min 2 r.length))).getD (0, 0)).1.toNat : Int), .int .i64 ((((AW (r.take (min 2 r.length))).getD (0, 0)).2 : Nat) : Int)])) w37 := M.putB 0 rfl hbw37 hfw37
        exact ⟨fun _ => M.drop 2, oc 12 13 rfl rfl (M.drop 2) (EQ (by kernel_rfl) (kr7 g7 g56 _ _ M ⟨rfl, rfl, rfl, rfl, trivial⟩))⟩
      ·refine ET (some 7) rfl (AA rfl) rfl rfl (fun ρ hρ => D9 116 rfl _ [.int .u8 0, .int .i64 0] CD rfl) ?_
       rintro _ w38 ⟨g7, rfl, hg7, hq7, hb7, hfw38⟩
       refine ⟨fun _ => M.step hfw38, ?_⟩
       have M := M.push hfw38 _ hb7 (EB hg7 hq7)
       replace M : Mem w (fun k => k = gx) (As.blk g7 116 [.int .u8 0, .int .i64 0] :: _) w38 := M
       refine C7 0 (some 56) (by kernel_rfl) rfl (AA rfl) rfl rfl (AP rfl rfl call58) (II _) ?_
       rintro _ w39 ⟨g56, rfl, hMw39, hgw39, hfw39⟩
       refine ⟨_, rfl, fun _ => (M.drop 1).step hfw39, ?_⟩
       have M := M.push hfw39 (As.mp g56 E5) hMw39 (M7 hgw39 hMw39.lt)
       refine DW 6 (by kernel_rfl) rfl (AA rfl) rfl rfl (E6 rfl rfl rfl underlying118 underlying9 CD (M.mp 0 rfl) (FD _) (HR _)) (M.drop 2) (oc 7 13 rfl rfl (M.drop 2) (oc 8 13 rfl rfl (M.drop 2) (oc 9 13 rfl rfl (M.drop 2) (BB 11 none (by kernel_rfl) rfl (AA rfl) rfl rfl (fun ρ hρ => C2 116 _ _ rfl g7 0 116 _ ([.int .u8 (((AW (r.take (min 2 r.length))).getD (0, 0)).1.toNat : Int), .int .i64 ((((AW (r.take (min 2 r.length))).getD (0, 0)).2 : Nat) : Int)]) (hρ _ _ rfl) (hρ _ _ rfl) (M.blk 1 rfl) E2 (BS rfl) (BP rfl)) ?_))))
       rintro _ w40 ⟨rfl, hbw40, hfw40⟩
       replace M : Mem w (fun k => k = gx) (List.set _ 1 (As.blk g7 116 [.int .u8 (((AW (r.take (min 2 r.length))).getD (0, 0)).1.toNat : Int), .int .i64 ((((AW (r.take (min 2 r.length))).getD (0, 0)).2 : Nat) : Int)])) w40 := M.putB 1 rfl hbw40 hfw40
       exact ⟨fun _ => M.drop 2, oc 12 13 rfl rfl (M.drop 2) (EQ (by kernel_rfl) (kr7 g7 g56 _ _ (M.pick [1, 0, 2] (by decide)) ⟨rfl, rfl, rfl, rfl, trivial⟩))⟩
 refine AO (d := 42) (b := (decide (r = []))) rfl (fun h42 => ?_) (fun h42 => ?_)
 ·iterate 5 refine yo rfl ?_
  exact yb rfl (k42 _ _ M ⟨rfl, rfl, (by rw [h42]; rfl), trivial⟩)
 ·exact yd rfl (yp rfl) (yd rfl (yp rfl) (yd rfl (yp rfl) (ym rfl rfl (M.cell 0 rfl rfl) (yd rfl (E4 rfl rfl rfl) (yb rfl (k42 _ _ M ⟨rfl, rfl, (by rw [h42]; rfl), trivial⟩))))))
end
section
def Xn.AtL (t : TypeId) (w : World) : Xn → Option Addr → List Nat → Prop
 | .un _ a, A, F => ∃ g B F', A = some ⟨g, 0, none⟩ ∧ F = g :: F' ∧ Blk w g t (a.cells B) ∧ Xn.AtL t w a B F'
 | .bin _ a b, A, F => ∃ g B C F' F'', A = some ⟨g, 0, none⟩ ∧ F = g :: (F' ++ F'') ∧ Blk w g t (a.cells B ++ b.cells C) ∧ Xn.AtL t w a B F' ∧ Xn.AtL t w b C F''
 | _, A, F => A = none ∧ F = []
theorem Xn.AtL.keep {t : TypeId} {w w' : World} : ∀ {n : Xn} {A : Option Addr} {F : List Nat}, (∀ g ∈ F, g < w.heap.size → w'.heap[g]? = w.heap[g]?) → n.AtL t w A F → n.AtL t w' A F
 | .zero, _, _, _, h => h
 | .lit _, _, _, _, h => h
 | .var _, _, _, _, h => h
 | .un _ _, _, _, hk, ⟨g, B, F', h1, h2, h3, h4⟩ => by
  subst h2
  exact ⟨g, B, F', h1, rfl, (hk g (by simp) h3.lt).trans h3, h4.keep (fun k hk' => hk k (by simp [hk']))⟩
 | .bin _ _ _, _, _, hk, ⟨g, B, C, F', F'', h1, h2, h3, h4, h5⟩ => by
  subst h2
  exact ⟨g, B, C, F', F'', h1, rfl, (hk g (by simp) h3.lt).trans h3, h4.keep (fun k hk' => hk k (by simp [hk'])), h5.keep (fun k hk' => hk k (by simp [hk']))⟩
theorem Xn.AtL.leaf {t : TypeId} {w : World} {n : Xn} (h : n.leaf = true) : n.AtL t w none [] := by
 cases n <;> first | exact ⟨rfl, rfl⟩ | cases h
def As.xn (t : TypeId) (n : Xn) (A : Option Addr) (F : List Nat) : As := ⟨F, fun w => n.AtL t w A F, fun h hb => hb.keep h⟩
section
variable {w0 w w' : World} {S : Nat → Prop} {L : List As}
theorem Mem.putPush (M : Mem w0 S L w) (i : Nat) {g ty : Nat} {cs cs' : List Value} (hi : L[i]? = some (As.blk g ty cs)) (hb : Blk w' g ty cs') (hf : Fr (fun k => k = g) w w') (a : As) (hok : a.ok w') (hfp : ∀ k ∈ a.fp, w.heap.size ≤ k ∧ k < w'.heap.size) : Mem w0 S (a :: L.set i (As.blk g ty cs')) w' := by
 have M' := M.putB i hi hb hf
 have old : ∀ (j : Nat) (b : As), (L.set i (As.blk g ty cs'))[j]? = some b → ∀ k ∈ b.fp, k < w.heap.size := by
  intro j b hj k hk
  by_cases hji : j = i
  ·subst hji
   rw [List.getElem?_set_self (List.getElem?_eq_some_iff.1 hi).1] at hj
   obtain rfl := Option.some.inj hj
   exact (M.lt j _ hi k (by simpa [As.blk] using hk)).1
  ·rw [List.getElem?_set_ne (Ne.symm hji)] at hj
   exact (M.lt j b hj k hk).1
 refine ⟨M'.fr, ?_, ?_, ?_⟩
 ·intro j b hj
  cases j with
  | zero => simp only [List.getElem?_cons_zero, Option.some.injEq] at hj; subst hj; exact hok
  | succ j => exact M'.ok j b (by simpa using hj)
 ·intro j b hj k hk
  cases j with
  | zero =>
   simp only [List.getElem?_cons_zero, Option.some.injEq] at hj; subst hj
   obtain ⟨h1, h2⟩ := hfp k hk
   exact ⟨h2, .inl (Nat.le_trans M.fr.size h1)⟩
  | succ j => exact M'.lt j b (by simpa using hj) k hk
 ·intro j l b c hj hl hne k hk hk'
  cases j with
  | zero =>
   cases l with
   | zero => exact hne rfl
   | succ l =>
    simp only [List.getElem?_cons_zero, Option.some.injEq] at hj; subst hj
    have h1 := (hfp k hk).1
    have h2 := old l c (by simpa using hl) k hk'
    omega
  | succ j =>
   cases l with
   | zero =>
    simp only [List.getElem?_cons_zero, Option.some.injEq] at hl; subst hl
    have h1 := (hfp k hk').1
    have h2 := old j b (by simpa using hj) k hk
    omega
   | succ l => exact M'.apart j l b c (by simpa using hj) (by simpa using hl) (by omega) k hk hk'
theorem Mem.newOf {gx ty : Nat} {cs : List Value} (M : Mem w0 (fun k => k = gx) L w) (i j : Nat) {a : As} (hi : L[i]? = some a) (hj : L[j]? = some (As.blk gx ty cs)) (hne : i ≠ j) : ∀ g ∈ a.fp, w0.heap.size ≤ g ∧ g < w.heap.size := fun g hg => by
 obtain ⟨h1, h2⟩ := M.lt i a hi g hg
 refine ⟨?_, h1⟩
 rcases h2 with h2 | h2
 ·exact h2
 ·exact absurd (by rw [h2]; simp [As.blk] : g ∈ (As.blk gx ty cs).fp) (M.apart i j a _ hi hj hne g hg)
theorem Mem.new0 (M : Mem w0 B0 L w) (i : Nat) {a : As} (hi : L[i]? = some a) : ∀ g ∈ a.fp, w0.heap.size ≤ g ∧ g < w.heap.size := fun g hg => by
 obtain ⟨h1, h2⟩ := M.lt i a hi g hg
 exact ⟨h2.elim id (fun hh => hh.elim), h1⟩
theorem Mem.un {t : TypeId} {gx ty g : Nat} {cs : List Value} {op : UInt8} {a : Xn} {B : Option Addr} {F : List Nat} (M : Mem w0 (fun k => k = gx) (As.blk g t (a.cells B) :: As.xn t a B F :: As.blk gx ty cs :: L) w) : (Xn.un op a).AtL t w (some ⟨g, 0, none⟩) (g :: F) ∧ ∀ k ∈ g :: F, w0.heap.size ≤ k ∧ k < w.heap.size := by
 refine ⟨⟨g, B, F, rfl, rfl, M.blk 0 rfl, M.ok 1 _ rfl⟩, fun k hk => ?_⟩
 rcases List.mem_cons.1 hk with rfl | hk
 ·exact M.newOf 0 2 rfl rfl (by decide) k (by simp [As.blk])
 ·exact M.newOf 1 2 rfl rfl (by decide) k hk
end
section
variable (s : List UInt8) (fr : Nat → Lx → Xn × Lx)
def JJ (op : UInt8) (line : Nat) (x : Lx) : Xn × Lx := (.un op (fr line (BJ s x)).1, (fr line (BJ s x)).2)
def NC (x : Lx) : Xn × Lx := (x.nd, BJ s (if (x.nd.op.toNat : Int) = 0 then x.fail 4 x.tat else x))
def G9 (x : Lx) : Xn × Lx :=
 ((fr 1 (BJ s x)).1, BJ s (if ¬ (fr 1 (BJ s x)).2.say = [41] then (fr 1 (BJ s x)).2.fail 4 (fr 1 (BJ s x)).2.tat else (fr 1 (BJ s x)).2))
def EA (line : Nat) (x : Lx) : Xn × Lx :=
 if x.say = [110, 111, 116] ∧ line ≤ 3 then JJ s fr 3 3 x
 else if x.say = [45] then JJ s fr 4 7 x
 else if x.say = [40] then G9 s fr x
 else NC s x
def QI (k : List UInt8) : Nat := ((AW k).getD (0, 0)).2
def LU (x : Lx) : Xn × Lx :=
 let r := fr (QI x.say + 1) (BJ s x)
 (r.1, if QI x.say = 4 ∧ QI r.2.say = 4 then r.2.fail 4 r.2.tat else r.2)
def GV : Nat → Nat → Xn → Lx → Xn × Lx
 | 0, _, n, x => (n, x)
 | k + 1, line, n, x =>
  if ¬ x.e = 0 then (n, x) else
  if (AW x.say).isNone = true ∨ QI x.say < line then (n, x) else
  GV k line (.bin ((AW x.say).getD (0, 0)).1 n (LU s fr x).1) (LU s fr x).2
end
def D5 (s : List UInt8) : Nat → Nat → Lx → Xn × Lx
 | 0, _, x => (.zero, x)
 | f + 1, line, x => if ¬ x.e = 0 then (.zero, x) else
  GV s (D5 s f) f line (EA s (D5 s f) line x).1 (EA s (D5 s f) line x).2
def D6 (s : List UInt8) : Xn × Nat × Int :=
 if 256 < s.length then (.zero, 0, 3) else
 let r := D5 s 258 1 (BJ s lx0)
 let y := if r.2.fin = false then r.2.fail 4 r.2.tat else r.2
 if y.e = 0 then (r.1, 0, 0) else (.zero, y.wh, y.e)
structure LxI (s : List UInt8) (x : Lx) : Prop where
 at_ : x.at_ ≤ s.length
 tat : x.tat ≤ x.at_
 adv : ¬ x.say = [] → x.tat < x.at_
 leaf : x.nd.leaf = true
def lxM (s : List UInt8) (x : Lx) : Nat := if x.e = 0 then s.length + 1 - x.tat else 0
theorem EZ (x : Lx) (e : Int) (p : Nat) : (x.fail e p).tat = x.tat := by unfold Lx.fail; split <;> rfl
theorem EP (x : Lx) (e : Int) (p : Nat) : (x.fail e p).nd = x.nd := by unfold Lx.fail; split <;> rfl
theorem IL (x : Lx) (e : Int) (p : Nat) : (x.fail e p).say = x.say := by unfold Lx.fail; split <;> rfl
theorem cI {x : Lx} {e : Int} {p : Nat} (h : ¬ e = 0) : ¬ (x.fail e p).e = 0 := by unfold Lx.fail; split <;> simp_all
theorem LxI.fail {s : List UInt8} {x : Lx} (h : LxI s x) (e : Int) (p : Nat) : LxI s (x.fail e p) := ⟨by rw [GK]; exact h.at_, by rw [GK, EZ]; exact h.tat, by rw [GK, EZ, IL]; exact h.adv, by rw [EP]; exact h.leaf⟩
theorem OW {s : List UInt8} {x : Lx} {e : Int} {p : Nat} (h : ¬ e = 0) : lxM s (x.fail e p) = 0 := by unfold lxM; rw [if_neg (cI h)]
theorem hZ (t : List UInt8) (x : Lx) : (I1 t x).tat = x.tat ∧ (I1 t x).say = x.say ∧ (x.nd.leaf = true → (I1 t x).nd.leaf = true) := by
 unfold I1
 split
 ·exact ⟨EZ _ _ _, IL _ _ _, fun h => by rw [EP]; exact h⟩
 ·split
  ·exact ⟨rfl, rfl, fun _ => rfl⟩
  ·exact ⟨EZ _ _ _, IL _ _ _, fun _ => rfl⟩
theorem bB (t : List UInt8) (x : Lx) : (FM t x).tat = x.tat ∧ (x.nd.leaf = true → (FM t x).nd.leaf = true) := by
 unfold FM
 repeat' split
 all_goals first
  | exact ⟨rfl, fun _ => rfl⟩
  | exact ⟨rfl, fun h => h⟩
  | exact ⟨EZ _ _ _, fun h => by rw [EP]; exact h⟩
theorem bI (l : List UInt8) (x : Lx) : (IH l x).tat = x.tat ∧ (IH l x).say = x.say ∧ (x.nd.leaf = true → (IH l x).nd.leaf = true) ∧ x.at_ ≤ (IH l x).at_ ∧ (IH l x).at_ ≤ x.at_ + l.length := by
 unfold IH
 split
 ·split
  ·exact ⟨rfl, rfl, fun _ => rfl, Nat.le_add_right _ _, by simp only; omega⟩
  ·exact ⟨EZ _ _ _, IL _ _ _, fun h => by rw [EP]; exact h, by rw [GK]; exact Nat.le_refl _, by rw [GK]; omega⟩
 ·exact ⟨EZ _ _ _, IL _ _ _, fun h => by rw [EP]; exact h, by rw [GK]; exact Nat.le_refl _, by rw [GK]; omega⟩
theorem cN {b : UInt8} (h : EX b = true) : b.toNat < 128 := by
 have h1 := odt (CL h).2
 have h2 : b.toNat ≤ (b ||| 32).toNat := by rw [UInt8.toNat_or]; exact Nat.left_le_or
 omega
theorem cO {b : UInt8} (h : EX b = true) : DK b = true := by unfold DK; rw [h]; rfl
theorem ZQ {s r : List UInt8} {x : Lx} (hr : r.length ≤ s.length) : LxI s (IK s r x) ∧ (IK s r x).tat = s.length - r.length := by
 by_cases h0 : r = [] ∨ ¬ x.e = 0
 ·rw [PI h0]
  exact ⟨⟨Nat.sub_le _ _, Nat.le_refl _, fun h => absurd rfl h, rfl⟩, rfl⟩
 ·have h : ¬ r = [] ∧ x.e = 0 := ⟨fun z => h0 (.inl z), Classical.byContradiction fun z => h0 (.inr z)⟩
  have hn : 0 < r.length := List.length_pos_iff.2 h.1
  obtain ⟨b, hb⟩ := CC (l := r) (i := 0) hn
  by_cases h1 : D2 b = true
  ·rw [TL h hb h1]
   have hsp := OF D2 r
   obtain ⟨e1, e2, e3⟩ := hZ (r.take (spanP D2 r)) ⟨s.length - r.length, .zero, [], s.length - r.length, false, x.e, x.wh⟩
   have e4 := OQ (r.take (spanP D2 r)) ⟨s.length - r.length, .zero, [], s.length - r.length, false, x.e, x.wh⟩
   simp only at e1 e2 e4
   refine ⟨⟨?_, ?_, ?_, e3 rfl⟩, e1⟩
   ·simp only [e4]; omega
   ·simp only [e4, e1]; omega
   ·simp only [e2]; exact fun h => absurd trivial h
  ·have h1 := Bool.eq_false_iff.2 h1
   by_cases h2 : EX b = true
   ·rw [RM h hb h1 h2]
    have hsp := OF DK r
    have hpo := TG (is := DK) hb (cN h2) (cO h2)
    obtain ⟨e1, e3⟩ := bB (r.take (spanP DK r)) ⟨s.length - r.length, .zero, [], s.length - r.length, false, x.e, x.wh⟩
    have e4 := LQ (r.take (spanP DK r)) ⟨s.length - r.length, .zero, [], s.length - r.length, false, x.e, x.wh⟩
    simp only at e1 e4
    refine ⟨⟨?_, ?_, ?_, e3 rfl⟩, e1⟩
    ·simp only [e4]; omega
    ·simp only [e4, e1]; omega
    ·simp only [e4, e1]; omega
   ·have h2 := Bool.eq_false_iff.2 h2
    by_cases h3 : (b.toNat : Int) = 39
    ·rw [RN h hb h1 h2 h3]
     obtain ⟨e1, e2, e3, e4, e5⟩ := bI r ⟨s.length - r.length, .zero, [], s.length - r.length, false, x.e, x.wh⟩
     simp only at e1 e2 e4 e5
     refine ⟨⟨by omega, by omega, ?_, e3 rfl⟩, e1⟩
     rw [e2]; exact fun h => absurd rfl h
    ·have hsg := ZJ h.1
     have hs1 : 0 < sgnN r := by unfold sgnN; split <;> omega
     by_cases h4 : (((!(AW (r.take (sgnN r))).isSome) && (!decide ((r.take (sgnN r)) = [40]))) && (!decide ((r.take (sgnN r)) = [41]))) = true
     ·rw [TM h hb h1 h2 h3 h4]
      refine ⟨⟨?_, ?_, ?_, ?_⟩, ?_⟩
      ·simp only [GK]; omega
      ·simp only [GK, EZ]; omega
      ·simp only [GK, EZ]; omega
      ·simp only [EP]; rfl
      ·simp only [EZ]
     ·rw [RO h hb h1 h2 h3 (Bool.eq_false_iff.2 h4)]
      exact ⟨⟨by simp only; omega, by simp only; omega, fun _ => by simp only; omega, rfl⟩, rfl⟩
theorem EW {s : List UInt8} {x : Lx} : LxI s (BJ s x) := (ZQ (KF _ _)).1
theorem cD {s : List UInt8} {x : Lx} (h : x.at_ ≤ s.length) : x.at_ ≤ (BJ s x).tat := by
 have h1 : (BJ s x).tat = _ := (ZQ (KF s x.at_)).2
 have h2 : (NW (s.drop x.at_)).length ≤ s.length - x.at_ := Nat.le_trans (K2 _ _) (by rw [List.length_drop]; exact Nat.le_refl _)
 have h3 := KF s x.at_
 omega
theorem WM {s : List UInt8} {x : Lx} (h : LxI s x) : lxM s (BJ s x) ≤ s.length + 1 - x.at_ := by
 have := cD h.at_
 unfold lxM
 split <;> omega
theorem KD {s : List UInt8} {x : Lx} (h : LxI s x) (he : x.e = 0) (hs : ¬ x.say = []) : lxM s (BJ s x) < lxM s x := by
 have h1 := WM h
 have h2 := h.adv hs
 have h3 := h.at_
 have h4 : lxM s x = s.length + 1 - x.tat := by unfold lxM; rw [if_pos he]
 omega
theorem qH {s : List UInt8} {x : Lx} (h : LxI s x) (he : x.e = 0) : lxM s (BJ s x) ≤ lxM s x := by
 have h1 := WM h
 have h2 := h.tat
 have h4 : lxM s x = s.length + 1 - x.tat := by unfold lxM; rw [if_pos he]
 omega
theorem n6 {s : List UInt8} {x : Lx} (h : ¬ x.e = 0) : ¬ (BJ s x).e = 0 := by
 unfold BJ
 rw [PI (.inr h)]
 exact h
theorem MR {s : List UInt8} {x : Lx} (h : LxI s x) : lxM s (BJ s x) ≤ lxM s x := by
 by_cases he : x.e = 0
 ·exact qH h he
 ·unfold lxM
  rw [if_neg he, if_neg (n6 he)]
  exact Nat.le_refl _
structure FrI (s : List UInt8) (f : Nat) (fr : Nat → Lx → Xn × Lx) : Prop where
 I : ∀ (line : Nat) (x : Lx), LxI s x → lxM s x ≤ f → LxI s (fr line x).2
 m : ∀ (line : Nat) (x : Lx), LxI s x → lxM s x ≤ f → lxM s (fr line x).2 ≤ lxM s x
section
variable {s : List UInt8} {f : Nat} {fr : Nat → Lx → Xn × Lx}
theorem QV (h : FrI s f fr) {x : Lx} (hx : LxI s x) (he : x.e = 0) (hs : ¬ x.say = []) (hm : lxM s x ≤ f + 1) (op : UInt8) (line : Nat) : LxI s (JJ s fr op line x).2 ∧ lxM s (JJ s fr op line x).2 ≤ lxM s x := by
 have h1 := KD hx he hs
 exact ⟨h.I _ _ EW (by omega), Nat.le_trans (h.m _ _ EW (by omega)) (by omega)⟩
theorem l7 {x : Lx} (hx : LxI s x) : LxI s (NC s x).2 ∧ lxM s (NC s x).2 ≤ lxM s x := by
 refine ⟨EW, ?_⟩
 unfold NC
 split
 ·exact Nat.le_trans (MR (hx.fail 4 x.tat)) (by rw [OW (by decide)]; exact Nat.zero_le _)
 ·exact MR hx
theorem SK (h : FrI s f fr) {x : Lx} (hx : LxI s x) (he : x.e = 0) (hs : ¬ x.say = []) (hm : lxM s x ≤ f + 1) : LxI s (G9 s fr x).2 ∧ lxM s (G9 s fr x).2 ≤ lxM s x := by
 have h1 := KD hx he hs
 have h2 := h.I 1 _ (EW (s := s) (x := x)) (by omega)
 have h3 := h.m 1 _ (EW (s := s) (x := x)) (by omega)
 refine ⟨EW, ?_⟩
 unfold G9
 simp only
 split
 ·exact Nat.le_trans (MR (h2.fail 4 _)) (by rw [OW (by decide)]; exact Nat.zero_le _)
 ·exact Nat.le_trans (MR h2) (by omega)
theorem UZ (h : FrI s f fr) {x : Lx} (hx : LxI s x) (he : x.e = 0) (hm : lxM s x ≤ f + 1) (line : Nat) : LxI s (EA s fr line x).2 ∧ lxM s (EA s fr line x).2 ≤ lxM s x := by
 unfold EA
 split
 ·rename_i h1; exact QV h hx he (by rw [h1.1]; decide) hm _ _
 ·split
  ·rename_i h1; exact QV h hx he (by rw [h1]; decide) hm _ _
  ·split
   ·rename_i h1; exact SK h hx he (by rw [h1]; decide) hm
   ·exact l7 hx
theorem W3 {x : Lx} (h : ¬ (AW x.say).isNone = true) : ¬ x.say = [] := fun e => h (by rw [e]; rfl)
theorem pQ (h : FrI s f fr) {x : Lx} (hx : LxI s x) (he : x.e = 0) (hs : ¬ x.say = []) (hm : lxM s x ≤ f + 1) : LxI s (LU s fr x).2 ∧ lxM s (LU s fr x).2 < lxM s x := by
 have h1 := KD hx he hs
 have h2 := h.I (QI x.say + 1) _ (EW (s := s) (x := x)) (by omega)
 have h3 := h.m (QI x.say + 1) _ (EW (s := s) (x := x)) (by omega)
 unfold LU
 simp only
 split
 ·exact ⟨h2.fail _ _, by rw [OW (by decide)]; omega⟩
 ·exact ⟨h2, by omega⟩
theorem iJ (h : FrI s f fr) (line : Nat) : ∀ (k : Nat) (n : Xn) (x : Lx), LxI s x → lxM s x ≤ f + 1 → LxI s (GV s fr k line n x).2 ∧ lxM s (GV s fr k line n x).2 ≤ lxM s x
 | 0, _, _, hx, _ => ⟨hx, Nat.le_refl _⟩
 | k + 1, n, x, hx, hm => by
  unfold GV
  split
  ·exact ⟨hx, Nat.le_refl _⟩
  ·rename_i he
   split
   ·exact ⟨hx, Nat.le_refl _⟩
   ·rename_i hs
    have he : x.e = 0 := Classical.byContradiction he
    obtain ⟨h1, h2⟩ := pQ h hx he (W3 fun z => hs (.inl z)) hm
    obtain ⟨h3, h4⟩ := iJ h line k (.bin ((AW x.say).getD (0, 0)).1 n (LU s fr x).1) _ h1 (by omega)
    exact ⟨h3, by omega⟩
end
theorem UY (s : List UInt8) : ∀ f : Nat, FrI s f (D5 s (f + 1))
 | 0 => by
  have key : ∀ (line : Nat) (x : Lx), LxI s x → lxM s x ≤ 0 → (D5 s 1 line x).2 = x := fun line x hx hm => by
   have he : ¬ x.e = 0 := fun he => by
    unfold lxM at hm
    rw [if_pos he] at hm
    have := hx.at_; have := hx.tat
    omega
   unfold D5
   rw [if_pos he]
  exact ⟨fun l x hx hm => by rw [key l x hx hm]; exact hx, fun l x hx hm => by rw [key l x hx hm]; exact Nat.le_refl _⟩
 | f + 1 => by
  have ih := UY s f
  have key : ∀ (line : Nat) (x : Lx), LxI s x → lxM s x ≤ f + 1 → LxI s (D5 s (f + 1 + 1) line x).2 ∧ lxM s (D5 s (f + 1 + 1) line x).2 ≤ lxM s x := fun line x hx hm => by
   unfold D5
   split
   ·exact ⟨hx, Nat.le_refl _⟩
   ·rename_i he
    have he : x.e = 0 := Classical.byContradiction he
    obtain ⟨h1, h2⟩ := UZ ih hx he hm line
    obtain ⟨h3, h4⟩ := iJ ih line (f + 1) (EA s (D5 s (f + 1)) line x).1 _ h1 (by omega)
    exact ⟨h3, by omega⟩
  exact ⟨fun l x hx hm => (key l x hx hm).1, fun l x hx hm => (key l x hx hm).2⟩
theorem mN (k : List UInt8) : QI k ≤ 6 := by
 have : ∀ (l : List (List UInt8 × (UInt8 × Nat))), (∀ q ∈ l, q.2.2 ≤ 6) → ((VW l k).getD (0, 0)).2 ≤ 6 := by
  intro l
  induction l with
  | nil => intro _; exact Nat.zero_le _
  | cons a l ih =>
   intro h
   obtain ⟨a1, a2⟩ := a
   unfold VW
   split
   ·exact h (a1, a2) (by simp)
   ·exact ih fun q hq => h q (by simp [hq])
 exact this signTab (by decide)
end
def U4 (s : List UInt8) (gx : Nat) (w : World) (r : Xn × Lx) : Ending → World → Prop := fun e w' => ∃ A F, e = .returned (.agg (r.1.cells A).toArray) ∧ r.1.AtL 75 w' A F ∧ (∀ k ∈ F, w.heap.size ≤ k ∧ k < w'.heap.size) ∧ Blk w' gx 110 (Lx.cells s r.2) ∧ Fr (fun k => k = gx) w w'
structure PE (s : List UInt8) (w : World) (gx c5 c6 c7 c8 c9 c10 : Nat) : Prop where
 b5 : Blk w c5 106 [.pointer (some ⟨gx, 0, none⟩)]
 b6 : Blk w c6 111 [.func (.func 57) #[] #[.pointer (some ⟨c5, 0, none⟩), .pointer (some ⟨c10, 0, none⟩), .pointer (some ⟨c6, 0, none⟩)]]
 b7 : Blk w c7 112 [.func (.func 52) #[] #[.pointer (some ⟨c5, 0, none⟩), .pointer (some ⟨c6, 0, none⟩)]]
 b8 : Blk w c8 114 [.func (.func 53) #[] #[.pointer (some ⟨c5, 0, none⟩)]]
 b9 : Blk w c9 114 [.func (.func 55) #[] #[.pointer (some ⟨c5, 0, none⟩), .pointer (some ⟨c6, 0, none⟩)]]
 b10 : Blk w c10 111 [.func (.func 56) #[] #[.pointer (some ⟨c5, 0, none⟩), .pointer (some ⟨c7, 0, none⟩), .pointer (some ⟨c9, 0, none⟩), .pointer (some ⟨c8, 0, none⟩)]]
 n : ¬ c5 = gx ∧ ¬ c6 = gx ∧ ¬ c7 = gx ∧ ¬ c8 = gx ∧ ¬ c9 = gx ∧ ¬ c10 = gx
 g : nGlob ≤ gx
 len : s.length ≤ 256
theorem PE.fr {s : List UInt8} {w w' : World} {gx c5 c6 c7 c8 c9 c10 : Nat} (h : PE s w gx c5 c6 c7 c8 c9 c10) (hf : Fr (fun k => k = gx) w w') : PE s w' gx c5 c6 c7 c8 c9 c10 :=
 ⟨h.b5.fr hf h.n.1, h.b6.fr hf h.n.2.1, h.b7.fr hf h.n.2.2.1, h.b8.fr hf h.n.2.2.2.1, h.b9.fr hf h.n.2.2.2.2.1, h.b10.fr hf h.n.2.2.2.2.2, h.n, h.g, h.len⟩
structure FromOK (s : List UInt8) (gx c5 c6 c7 c8 c9 c10 : Nat) (f : Nat) (fr : Nat → Lx → Xn × Lx) : Prop where
 I : FrI s f fr
 call : ∀ (line : Nat) (x : Lx) (w : World), line ≤ 7 → Blk w gx 110 (Lx.cells s x) → LxI s x → lxM s x ≤ f → PE s w gx c5 c6 c7 c8 c9 c10 → Lay0 w →
  Calls prog 57 #[.int .i64 (line : Int), .pointer (some ⟨c5, 0, none⟩), .pointer (some ⟨c10, 0, none⟩), .pointer (some ⟨c6, 0, none⟩)] w (U4 s gx w (fr line x))
theorem KJ (a0 : Int) (A3 : Option Addr) (n3 c3 : Nat) : prog.built 75 [(0, .int .u8 a0), (3, .slice A3 n3 c3)] = some #[.int .u8 a0, .int .u8 0, .int .i64 0, .bool false, str [], str [], .slice A3 n3 c3] := by kernel_rfl
theorem NB : (prog.info? 75).map (fun i => (i.zero, i.size)) = some (some (.agg #[.int .u8 0, .int .u8 0, .int .i64 0, .bool false, str [], str [], .slice none 0 0]), 7) := by kernel_rfl
theorem DD : (prog.info? 75).map (·.zero) = some (some (.agg #[.int .u8 0, .int .u8 0, .int .i64 0, .bool false, str [], str [], .slice none 0 0])) := by kernel_rfl
theorem TI {s : List UInt8} {gx c5 c6 c7 c8 c9 c10 : Nat} {f : Nat} {fr : Nat → Lx → Xn × Lx} (hF : FromOK s gx c5 c6 c7 c8 c9 c10 f fr) (op : UInt8) (line : Nat) (hl : line ≤ 7) (x : Lx) (w : World) (hb : Blk w gx 110 (Lx.cells s x)) (hx : LxI s x) (he : x.e = 0) (hs : ¬ x.say = []) (hm : lxM s x ≤ f + 1) (hE : PE s w gx c5 c6 c7 c8 c9 c10) (hY : Lay0 w) :
 Calls prog 52 #[.int .u8 (op.toNat : Int), .int .i64 (line : Int), .pointer (some ⟨c5, 0, none⟩), .pointer (some ⟨c6, 0, none⟩)] w (U4 s gx w (JJ s fr op line x)) := by
 have hGx : ∀ k, k = gx → nGlob ≤ k := fun _ e => e ▸ hE.g
 have hst := KD hx he hs
 refine BE (vs := [_, _, _, _]) func52 rfl ntmps52 rfl ?_
 have M : Mem w (fun k => k = gx) [As.blk gx 110 (Lx.cells s x)] w := Mem.one hb
 refine srg (DJ M (AA rfl) rfl rfl 75 rfl [.int .u8 0, .int .u8 0, .int .i64 0, .bool false, str [], str [], .slice none 0 0] DD rfl fun g6 w1 hg6 M => nq (srg (yl rfl rfl (Blk.c ((hE.fr M.fr).b5) 0 rfl) (B3 (some 8) (AA rfl) rfl rfl (AP rfl rfl call51) (HL s x _ _ (M.blk 1 rfl) hx.at_ hE.len (hY.fr M.fr hGx) hE.g) ?_))))
 rintro _ w2 ⟨rfl, hbw2, hfw2⟩
 have M := M.putB 1 rfl hbw2 hfw2
 refine ⟨_, rfl, nq (srg (yb rfl (yl rfl rfl (Blk.c ((hE.fr M.fr).b6) 0 rfl) (yb rfl (B3 (some 12) (AA rfl) rfl rfl (BX rfl rfl rfl call57) (hF.call line (BJ s x) _ (by omega) (M.blk 1 rfl) EW (by omega) (hE.fr M.fr) (hY.fr M.fr hGx)) ?_)))))⟩
 rintro _ w3 ⟨A12, F12, rfl, hat12, hnw12, hbw3, hfw3⟩
 have M := M.putPush 1 rfl hbw3 hfw3 (As.xn 75 (fr line (BJ s x)).1 A12 F12) hat12 hnw12
 have hI12 := hF.I.I line (BJ s x) EW (by omega)
 refine ⟨_, rfl, ?_⟩
 have hm12 := hF.I.m line (BJ s x) EW (by omega)
 refine DF M (AA rfl) rfl rfl [.agg (Xn.cells ((fr line (BJ s x)).1) A12).toArray] (Xn.cells ((fr line (BJ s x)).1) A12) rfl rfl rfl rfl underlying73 NB rfl rfl (by intro v hv; simp only [List.mem_cons, List.not_mem_nil, or_false] at hv; rcases hv with rfl <;> rfl) rfl fun g13 w4 hg13 M => ya rfl (BA (parts := [(0, _), (3, _)]) rfl rfl (KJ _ _ _ _)) (D7 (cs' := [.int .u8 (op.toNat : Int), .int .u8 0, .int .i64 0, .bool false, str [], str [], .slice (some ⟨g13, 0, none⟩) 1 1]) M 2 (AA rfl) rfl rfl rfl rfl rfl AZ rfl (BS rfl) (BP rfl) rfl fun w5 M => nq (BN (FB rfl rfl (M.rdBlk 2 rfl rfl) underlying75 rfl AZ ?_)))
 obtain ⟨ha, hn⟩ := Mem.un (op := op) (M.pick [0, 1, 3] (by decide))
 exact ⟨_, _, rfl, ha, hn, M.blk 3 rfl, M.fr⟩
theorem gV {s : List UInt8} {gx c5 c6 c7 c8 c9 c10 : Nat}  (x : Lx) (w : World) (hb : Blk w gx 110 (Lx.cells s x)) (hx : LxI s x) (hE : PE s w gx c5 c6 c7 c8 c9 c10) (hY : Lay0 w) :
 Calls prog 53 #[.pointer (some ⟨c5, 0, none⟩)] w (U4 s gx w (NC s x)) := by
 have hGx : ∀ k, k = gx → nGlob ≤ k := fun _ e => e ▸ hE.g
 have hc : x.nd.cells none = [.int .u8 (x.nd.op.toNat : Int), .int .u8 (x.nd.vl.kind.toNat : Int), .int .i64 x.nd.vl.int, .bool x.nd.vl.bool, str x.nd.vl.text, str x.nd.nm, .slice none 0 0] := by unfold Xn.cells; rw [Xn.nk_leaf hx.leaf]
 refine BE (vs := [_]) func53 rfl ntmps53 rfl ?_
 have M : Mem w (fun k => k = gx) [As.blk gx 110 (Lx.cells s x)] w := Mem.one hb
 refine srg (DJ M (AA rfl) rfl rfl 75 rfl [.int .u8 0, .int .u8 0, .int .i64 0, .bool false, str [], str [], .slice none 0 0] DD rfl fun g1 w1 hg1 M => nq (srg (yl rfl rfl (Blk.c ((hE.fr M.fr).b5) 0 rfl) (yb rfl (yb rfl (yb rfl (ya rfl (AU (xs := [.int .u8 (x.nd.op.toNat : Int), .int .u8 (x.nd.vl.kind.toNat : Int), .int .i64 x.nd.vl.int, .bool x.nd.vl.bool, str x.nd.vl.text, str x.nd.nm, .slice none 0 0]) rfl rfl (FS (M.blk 1 rfl) 2 7 rfl rfl) underlying75 rfl AZ) (DJ M (AA rfl) rfl rfl 75 rfl [.int .u8 0, .int .u8 0, .int .i64 0, .bool false, str [], str [], .slice none 0 0] DD rfl fun g2 w2 hg2 M => D7 (cs' := [.int .u8 (x.nd.op.toNat : Int), .int .u8 (x.nd.vl.kind.toNat : Int), .int .i64 x.nd.vl.int, .bool x.nd.vl.bool, str x.nd.vl.text, str x.nd.nm, .slice none 0 0]) M 0 (AA rfl) rfl rfl rfl rfl rfl AZ rfl (BS rfl) (BP rfl) rfl ?_))))))))
 intro w3 M
 refine nq (AF (srg (yb rfl (yl rfl rfl (M.cell 0 rfl rfl) (ya rfl (BZ rfl rfl rfl) (nq (AL (b := (decide ((x.nd.op.toNat : Int) = (0 : Int)))) rfl (fun h10 => ?_) (fun h10 => ?_))))))))
 ·have h10p := (odt h10)
  refine DP 6 CZ (by kernel_rfl) ?_
  have M := M.drew
  refine sd rfl rfl (Blk.c ((hE.fr M.fr).b5) 0 rfl) (sd rfl rfl (Blk.c ((hE.fr M.fr).b5) 0 rfl) (sb rfl (sb rfl (sb rfl (sd rfl rfl (M.cell 2 rfl rfl) (CS (B3 (some 17) (AA rfl) rfl rfl (AP rfl rfl call54) (FT s x _ _ _ _ (M.blk 2 rfl)) ?_)))))))
  rintro _ w4 ⟨rfl, hbw4, hfw4⟩
  have M := M.putB 2 rfl hbw4 hfw4
  refine ⟨_, rfl, nq (srg (yl rfl rfl (Blk.c ((hE.fr M.fr).b5) 0 rfl) (B3 (some 19) (AA rfl) rfl rfl (AP rfl rfl call51) (HL s (x.fail 4 x.tat) _ _ (M.blk 2 rfl) (hx.fail _ _).at_ hE.len (hY.fr M.fr hGx) hE.g) ?_)))⟩
  rintro _ w5 ⟨rfl, hbw5, hfw5⟩
  have M := M.putB 2 rfl hbw5 hfw5
  exact ⟨_, rfl, nq (srg (ya rfl (AU (xs := [.int .u8 (x.nd.op.toNat : Int), .int .u8 (x.nd.vl.kind.toNat : Int), .int .i64 x.nd.vl.int, .bool x.nd.vl.bool, str x.nd.vl.text, str x.nd.nm, .slice none 0 0]) rfl rfl (M.rdBlk 0 rfl rfl) underlying75 rfl AZ) (D7 (cs' := [.int .u8 (x.nd.op.toNat : Int), .int .u8 (x.nd.vl.kind.toNat : Int), .int .i64 x.nd.vl.int, .bool x.nd.vl.bool, str x.nd.vl.text, str x.nd.nm, .slice none 0 0]) M 1 (AA rfl) rfl rfl rfl rfl rfl AZ rfl (BS rfl) (BP rfl) rfl fun w6 M => nq (BN (FB rfl rfl (M.rdBlk 1 rfl rfl) underlying75 rfl AZ ⟨none, [], congrArg (fun z => Ending.returned (.agg z)) (congrArg List.toArray hc.symm), Xn.AtL.leaf hx.leaf, (fun k hk => absurd hk (by simp)), by rw [NC, if_pos h10p]; exact M.blk 2 rfl, M.fr⟩)))))⟩
 ·have h10p := (odf h10)
  refine AI (AD (srg (yl rfl rfl (Blk.c ((hE.fr M.fr).b5) 0 rfl) (B3 (some 19) (AA rfl) rfl rfl (AP rfl rfl call51) (HL s x _ _ (M.blk 2 rfl) hx.at_ hE.len (hY.fr M.fr hGx) hE.g) ?_))))
  rintro _ w7 ⟨rfl, hbw7, hfw7⟩
  have M := M.putB 2 rfl hbw7 hfw7
  exact ⟨_, rfl, nq (srg (ya rfl (AU (xs := [.int .u8 (x.nd.op.toNat : Int), .int .u8 (x.nd.vl.kind.toNat : Int), .int .i64 x.nd.vl.int, .bool x.nd.vl.bool, str x.nd.vl.text, str x.nd.nm, .slice none 0 0]) rfl rfl (M.rdBlk 0 rfl rfl) underlying75 rfl AZ) (D7 (cs' := [.int .u8 (x.nd.op.toNat : Int), .int .u8 (x.nd.vl.kind.toNat : Int), .int .i64 x.nd.vl.int, .bool x.nd.vl.bool, str x.nd.vl.text, str x.nd.nm, .slice none 0 0]) M 1 (AA rfl) rfl rfl rfl rfl rfl AZ rfl (BS rfl) (BP rfl) rfl fun w8 M => nq (BN (FB rfl rfl (M.rdBlk 1 rfl rfl) underlying75 rfl AZ ⟨none, [], congrArg (fun z => Ending.returned (.agg z)) (congrArg List.toArray hc.symm), Xn.AtL.leaf hx.leaf, (fun k hk => absurd hk (by simp)), by rw [NC, if_neg h10p]; exact M.blk 2 rfl, M.fr⟩)))))⟩
theorem UN {s : List UInt8} {gx c5 c6 c7 c8 c9 c10 : Nat} {f : Nat} {fr : Nat → Lx → Xn × Lx} (hF : FromOK s gx c5 c6 c7 c8 c9 c10 f fr)  (x : Lx) (w : World) (hb : Blk w gx 110 (Lx.cells s x)) (hx : LxI s x) (he : x.e = 0) (hs : ¬ x.say = []) (hm : lxM s x ≤ f + 1) (hE : PE s w gx c5 c6 c7 c8 c9 c10) (hY : Lay0 w) :
 Calls prog 55 #[.pointer (some ⟨c5, 0, none⟩), .pointer (some ⟨c6, 0, none⟩)] w (U4 s gx w (G9 s fr x)) := by
 have hGx : ∀ k, k = gx → nGlob ≤ k := fun _ e => e ▸ hE.g
 have hst := KD hx he hs
 refine BE (vs := [_, _]) func55 rfl ntmps55 rfl ?_
 have M : Mem w (fun k => k = gx) [As.blk gx 110 (Lx.cells s x)] w := Mem.one hb
 refine srg (DJ M (AA rfl) rfl rfl 75 rfl [.int .u8 0, .int .u8 0, .int .i64 0, .bool false, str [], str [], .slice none 0 0] DD rfl fun g2 w1 hg2 M => nq (srg (yl rfl rfl (Blk.c ((hE.fr M.fr).b5) 0 rfl) (B3 (some 5) (AA rfl) rfl rfl (AP rfl rfl call51) (HL s x _ _ (M.blk 1 rfl) hx.at_ hE.len (hY.fr M.fr hGx) hE.g) ?_))))
 rintro _ w2 ⟨rfl, hbw2, hfw2⟩
 have M := M.putB 1 rfl hbw2 hfw2
 refine ⟨_, rfl, nq (srg (yl rfl rfl (Blk.c ((hE.fr M.fr).b6) 0 rfl) (B3 (some 7) (AA rfl) rfl rfl (BX rfl rfl rfl call57) (hF.call 1 (BJ s x) _ (by omega) (M.blk 1 rfl) EW (by omega) (hE.fr M.fr) (hY.fr M.fr hGx)) ?_)))⟩
 rintro _ w3 ⟨A7, F7, rfl, hat7, hnw7, hbw3, hfw3⟩
 have M := M.putPush 1 rfl hbw3 hfw3 (As.xn 75 (fr 1 (BJ s x)).1 A7 F7) hat7 hnw7
 have hI7 := hF.I.I 1 (BJ s x) EW (by omega)
 refine ⟨_, rfl, ?_⟩
 have hm7 := hF.I.m 1 (BJ s x) EW (by omega)
 refine DJ M (AA rfl) rfl rfl 75 rfl [.int .u8 0, .int .u8 0, .int .i64 0, .bool false, str [], str [], .slice none 0 0] DD rfl fun g3 w4 hg3 M => D7 (cs' := (Xn.cells ((fr 1 (BJ s x)).1) A7)) M 0 (AA rfl) rfl rfl rfl rfl rfl AZ rfl (BS rfl) (BP rfl) rfl fun w5 M => nq (AF (srg (yl rfl rfl (Blk.c ((hE.fr M.fr).b5) 0 rfl) (yb rfl (yb rfl (yb rfl (yl rfl rfl (M.cell 3 rfl rfl) (ya rfl (FP rfl rfl rfl) (AR ?_)))))))))
 refine AD (AL (b := (!decide ((fr 1 (BJ s x)).2.say = [41]))) rfl (fun h13 => ?_) (fun h13 => ?_))
 ·have h13p := (odf (CK h13))
  refine DP 6 CZ (by kernel_rfl) ?_
  have M := M.drew
  refine sd rfl rfl (Blk.c ((hE.fr M.fr).b5) 0 rfl) (sd rfl rfl (Blk.c ((hE.fr M.fr).b5) 0 rfl) (sb rfl (sb rfl (sb rfl (sd rfl rfl (M.cell 3 rfl rfl) (CS (B3 (some 20) (AA rfl) rfl rfl (AP rfl rfl call54) (FT s ((fr 1 (BJ s x)).2) _ _ _ _ (M.blk 3 rfl)) ?_)))))))
  rintro _ w6 ⟨rfl, hbw6, hfw6⟩
  have M := M.putB 3 rfl hbw6 hfw6
  refine ⟨_, rfl, nq (srg (yl rfl rfl (Blk.c ((hE.fr M.fr).b5) 0 rfl) (B3 (some 22) (AA rfl) rfl rfl (AP rfl rfl call51) (HL s (((fr 1 (BJ s x)).2).fail 4 ((fr 1 (BJ s x)).2.tat)) _ _ (M.blk 3 rfl) (hI7.fail _ _).at_ hE.len (hY.fr M.fr hGx) hE.g) ?_)))⟩
  rintro _ w7 ⟨rfl, hbw7, hfw7⟩
  have M := M.putB 3 rfl hbw7 hfw7
  exact ⟨_, rfl, nq (srg (ya rfl (AU (xs := Xn.cells ((fr 1 (BJ s x)).1) A7) rfl rfl (M.rdBlk 0 rfl rfl) underlying75 rfl AZ) (D7 (cs' := (Xn.cells ((fr 1 (BJ s x)).1) A7)) M 2 (AA rfl) rfl rfl rfl rfl rfl AZ rfl (BS rfl) (BP rfl) rfl fun w8 M => nq (BN (FB rfl rfl (M.rdBlk 2 rfl rfl) underlying75 rfl AZ ⟨_, _, rfl, M.ok 1 _ rfl, M.newOf 1 3 rfl rfl (by decide), by rw [G9, if_pos h13p]; exact M.blk 3 rfl, M.fr⟩)))))⟩
 ·have h13p := (odt (BQ h13))
  refine AI (AD (srg (yl rfl rfl (Blk.c ((hE.fr M.fr).b5) 0 rfl) (B3 (some 22) (AA rfl) rfl rfl (AP rfl rfl call51) (HL s ((fr 1 (BJ s x)).2) _ _ (M.blk 3 rfl) hI7.at_ hE.len (hY.fr M.fr hGx) hE.g) ?_))))
  rintro _ w9 ⟨rfl, hbw9, hfw9⟩
  have M := M.putB 3 rfl hbw9 hfw9
  exact ⟨_, rfl, nq (srg (ya rfl (AU (xs := Xn.cells ((fr 1 (BJ s x)).1) A7) rfl rfl (M.rdBlk 0 rfl rfl) underlying75 rfl AZ) (D7 (cs' := (Xn.cells ((fr 1 (BJ s x)).1) A7)) M 2 (AA rfl) rfl rfl rfl rfl rfl AZ rfl (BS rfl) (BP rfl) rfl fun w10 M => nq (BN (FB rfl rfl (M.rdBlk 2 rfl rfl) underlying75 rfl AZ ⟨_, _, rfl, M.ok 1 _ rfl, M.newOf 1 3 rfl rfl (by decide), by rw [G9, if_neg (fun z => z h13p)]; exact M.blk 3 rfl, M.fr⟩)))))⟩
theorem bY {s : List UInt8} {gx c5 c6 c7 c8 c9 c10 : Nat} {f : Nat} {fr : Nat → Lx → Xn × Lx} (hF : FromOK s gx c5 c6 c7 c8 c9 c10 f fr) (line : Nat) (hl : line ≤ 7) (x : Lx) (w : World) (hb : Blk w gx 110 (Lx.cells s x)) (hx : LxI s x) (he : x.e = 0) (hm : lxM s x ≤ f + 1) (hE : PE s w gx c5 c6 c7 c8 c9 c10) (hY : Lay0 w) :
 Calls prog 56 #[.int .i64 (line : Int), .pointer (some ⟨c5, 0, none⟩), .pointer (some ⟨c7, 0, none⟩), .pointer (some ⟨c9, 0, none⟩), .pointer (some ⟨c8, 0, none⟩)] w (U4 s gx w (EA s fr line x)) := by
 have hGx : ∀ k, k = gx → nGlob ≤ k := fun _ e => e ▸ hE.g
 refine BE (vs := [_, _, _, _, _]) func56 rfl ntmps56 rfl ?_
 have M : Mem w (fun k => k = gx) [As.blk gx 110 (Lx.cells s x)] w := Mem.one hb
 refine srg (DJ M (AA rfl) rfl rfl 75 rfl [.int .u8 0, .int .u8 0, .int .i64 0, .bool false, str [], str [], .slice none 0 0] DD rfl fun g6 w1 hg6 M => nq (AF (AS (srg (yl rfl rfl (Blk.c ((hE.fr M.fr).b5) 0 rfl) (yb rfl (yb rfl (yb rfl (yl rfl rfl (M.cell 1 rfl rfl) (ya rfl (DM rfl rfl rfl) ?_))))))))))
 refine yb rfl (DI 3 [(1, .pointer (some ⟨c5, 0, none⟩)), (2, .pointer (some ⟨c7, 0, none⟩)), (3, .pointer (some ⟨c9, 0, none⟩)), (4, .pointer (some ⟨c8, 0, none⟩)), (6, .pointer (some ⟨g6, 0, none⟩)), (17, .bool ((decide (x.say = [110, 111, 116])) && (decide (((line : Nat) : Int) ≤ (3 : Int)))))] (fun w' => Mem w (fun k => k = gx) [As.blk g6 75 [.int .u8 0, .int .u8 0, .int .i64 0, .bool false, str [], str [], .slice none 0 0], As.blk gx 110 (Lx.cells s x)] w') ?_ (fun k14 => ?_))
 ·intro w2 M
  refine yb rfl (nq (AL (b := ((decide (x.say = [110, 111, 116])) && (decide (((line : Nat) : Int) ≤ (3 : Int))))) rfl (fun h7 => ?_) (fun h7 => ?_)))
  ·have h7p := (And.intro (odt (CL h7).1) (odt (CL h7).2))
   refine srg (yl rfl rfl (Blk.c ((hE.fr M.fr).b7) 0 rfl) (B3 (some 19) (AA rfl) rfl rfl (BX rfl rfl rfl call52) (TI hF 3 3 (by decide) x _ (M.blk 1 rfl) hx he (by rw [h7p.1]; decide) hm (hE.fr M.fr) (hY.fr M.fr hGx)) ?_))
   rintro _ w3 ⟨A19, F19, rfl, hat19, hnw19, hbw3, hfw3⟩
   have M := M.putPush 1 rfl hbw3 hfw3 (As.xn 75 (JJ s fr 3 3 x).1 A19 F19) hat19 hnw19
   have hI19 := (QV hF.I hx he (by rw [h7p.1]; decide) hm 3 3).1
   refine ⟨_, rfl, D7 (cs' := (Xn.cells ((JJ s fr 3 3 x).1) A19)) M 1 (AA rfl) rfl rfl rfl rfl rfl AZ rfl (BS rfl) (BP rfl) rfl fun w4 M => nq (BN (AN (AB (FB rfl rfl (M.rdBlk 1 rfl rfl) underlying75 rfl AZ ?_))))⟩
   have hfp : EA s fr line x = JJ s fr 3 3 x := by unfold EA; exact if_pos ⟨h7p.1, by omega⟩
   rw [hfp]
   exact ⟨_, _, rfl, M.ok 0 _ rfl, M.newOf 0 2 rfl rfl (by decide), M.blk 2 rfl, M.fr⟩
  ·have h7p := ((DT h7).imp (fun z => (odf z)) (fun z => (odf z)))
   have h7n : ¬ (x.say = [110, 111, 116] ∧ line ≤ 3) := fun z => h7p.elim (fun q => q z.1) (fun q => q (by omega))
   refine srg (yl rfl rfl (Blk.c ((hE.fr M.fr).b5) 0 rfl) (yb rfl (yb rfl (yb rfl (yl rfl rfl (M.cell 1 rfl rfl) (ya rfl (DM rfl rfl rfl) (yb rfl (nq (AL (b := (decide (x.say = [45]))) rfl (fun h20 => ?_) (fun h20 => ?_))))))))))
   ·have h20p := (odt h20)
    refine srg (yl rfl rfl (Blk.c ((hE.fr M.fr).b7) 0 rfl) (B3 (some 28) (AA rfl) rfl rfl (BX rfl rfl rfl call52) (TI hF 4 7 (by decide) x _ (M.blk 1 rfl) hx he (by rw [h20p]; decide) hm (hE.fr M.fr) (hY.fr M.fr hGx)) ?_))
    rintro _ w5 ⟨A28, F28, rfl, hat28, hnw28, hbw5, hfw5⟩
    have M := M.putPush 1 rfl hbw5 hfw5 (As.xn 75 (JJ s fr 4 7 x).1 A28 F28) hat28 hnw28
    have hI28 := (QV hF.I hx he (by rw [h20p]; decide) hm 4 7).1
    refine ⟨_, rfl, D7 (cs' := (Xn.cells ((JJ s fr 4 7 x).1) A28)) M 1 (AA rfl) rfl rfl rfl rfl rfl AZ rfl (BS rfl) (BP rfl) rfl fun w6 M => nq (BN (AN (AB (FB rfl rfl (M.rdBlk 1 rfl rfl) underlying75 rfl AZ ?_))))⟩
    have hfp : EA s fr line x = JJ s fr 4 7 x := by unfold EA; rw [if_neg (fun z => h7n z), if_pos h20p]
    rw [hfp]
    exact ⟨_, _, rfl, M.ok 0 _ rfl, M.newOf 0 2 rfl rfl (by decide), M.blk 2 rfl, M.fr⟩
   ·have h20p := (odf h20)
    refine srg (yl rfl rfl (Blk.c ((hE.fr M.fr).b5) 0 rfl) (yb rfl (yb rfl (yb rfl (yl rfl rfl (M.cell 1 rfl rfl) (ya rfl (DM rfl rfl rfl) (yb rfl (nq (AL (b := (decide (x.say = [40]))) rfl (fun h29 => ?_) (fun h29 => ?_))))))))))
    ·have h29p := (odt h29)
     refine srg (yl rfl rfl (Blk.c ((hE.fr M.fr).b9) 0 rfl) (B3 (some 37) (AA rfl) rfl rfl (BX rfl rfl rfl call55) (UN hF x _ (M.blk 1 rfl) hx he (by rw [h29p]; decide) hm (hE.fr M.fr) (hY.fr M.fr hGx)) ?_))
     rintro _ w7 ⟨A37, F37, rfl, hat37, hnw37, hbw7, hfw7⟩
     have M := M.putPush 1 rfl hbw7 hfw7 (As.xn 75 (G9 s fr x).1 A37 F37) hat37 hnw37
     have hI37 := (SK hF.I hx he (by rw [h29p]; decide) hm).1
     refine ⟨_, rfl, D7 (cs' := (Xn.cells ((G9 s fr x).1) A37)) M 1 (AA rfl) rfl rfl rfl rfl rfl AZ rfl (BS rfl) (BP rfl) rfl fun w8 M => nq (BN (AN (AB (FB rfl rfl (M.rdBlk 1 rfl rfl) underlying75 rfl AZ ?_))))⟩
     have hfp : EA s fr line x = G9 s fr x := by unfold EA; rw [if_neg (fun z => h7n z), if_neg h20p, if_pos h29p]
     rw [hfp]
     exact ⟨_, _, rfl, M.ok 0 _ rfl, M.newOf 0 2 rfl rfl (by decide), M.blk 2 rfl, M.fr⟩
    ·have h29p := (odf h29)
     refine AI (AE (AD (srg (yl rfl rfl (Blk.c ((hE.fr M.fr).b8) 0 rfl) (B3 (some 39) (AA rfl) rfl rfl (BX rfl rfl rfl call53) (gV x _ (M.blk 1 rfl) hx (hE.fr M.fr) (hY.fr M.fr hGx)) ?_)))))
     rintro _ w9 ⟨A39, F39, rfl, hat39, hnw39, hbw9, hfw9⟩
     have M := M.putPush 1 rfl hbw9 hfw9 (As.xn 75 (NC s x).1 A39 F39) hat39 hnw39
     have hI39 := (l7 hx).1
     refine ⟨_, rfl, D7 (cs' := (Xn.cells ((NC s x).1) A39)) M 1 (AA rfl) rfl rfl rfl rfl rfl AZ rfl (BS rfl) (BP rfl) rfl fun w10 M => nq (BN (FB rfl rfl (M.rdBlk 1 rfl rfl) underlying75 rfl AZ ?_))⟩
     have hfp : EA s fr line x = NC s x := by unfold EA; rw [if_neg (fun z => h7n z), if_neg h20p, if_neg h29p]
     rw [hfp]
     exact ⟨_, _, rfl, M.ok 0 _ rfl, M.newOf 0 2 rfl rfl (by decide), M.blk 2 rfl, M.fr⟩
 refine AO (d := 14) (b := (decide (x.say = [110, 111, 116]))) rfl (fun h14 => ?_) (fun h14 => ?_)
 ·exact yd rfl (yp rfl) (yd rfl (GP rfl rfl rfl) (yb rfl (k14 _ _ M ⟨rfl, rfl, rfl, rfl, rfl, (by rw [h14]; rfl), trivial⟩)))
 ·exact yo rfl (yo rfl (yb rfl (k14 _ _ M ⟨rfl, rfl, rfl, rfl, rfl, (by rw [h14]; rfl), trivial⟩)))
end Go.Proofs.YtjaocmocdhckaaaGreatDoor
