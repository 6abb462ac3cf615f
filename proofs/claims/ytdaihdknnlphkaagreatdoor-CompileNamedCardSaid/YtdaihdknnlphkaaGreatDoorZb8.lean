/- Lemmas that the last text rests on. Condition: each says its own. -/
import Derived.Test.YtdaihdknnlphkaaGreatDoorZb7
import Derived.Laws.RangeString
set_option maxHeartbeats 16000000
set_option maxRecDepth 100000
namespace Go.Proofs.YtdaihdknnlphkaaGreatDoor
open Go.RowKit
open Tryz
section
theorem eT {P : Program} {e : Env} {w : World} {o : Oper} {v : Value} (h : Y P e o w v) : ∀ ρ, Ag e ρ → FU P ρ o w (fun u w' => u = v ∧ w' = w) := fun ρ hρ => ⟨v, w, .inl (h ρ hρ), rfl, rfl⟩
theorem uM {P : Program} {e : Env} {w : World} {o : Oper} {t t' : Nat} {a b : Nat} {x y : Operand} (ho : o.op = .binOp .sub t x y t') (hx : ev e x = some (.int .i64 (a : Int))) (hy : ev e y = some (.int .i64 (b : Int))) (h : b ≤ a) (hl : a ≤ 9223372036854775807) : Y P e o w (.int .i64 ((a - b : Nat) : Int)) := by
 have : ((a - b : Nat) : Int) = (a : Int) - (b : Int) := by omega
 rw [this]; exact xE ho hx hy (by omega)
theorem kX {l r : List UInt8} (w : World) (h : N7 l = r) : Calls prog 144 #[str l, str [32]] w fun e w' => e = .returned (str r) ∧ w = w' := h ▸ kY l w
theorem JL (p : UInt8 → Bool) : ∀ l : List UInt8, (l.dropWhile p).length ≤ l.length
 | [] => Nat.le_refl _
 | b :: l => by
  rw [List.dropWhile_cons]
  split
  ·exact Nat.le_succ_of_le (JL p l)
  ·exact Nat.le_refl _
theorem JZ (l : List UInt8) (k : Nat) : (N7 (l.drop k)).length ≤ l.length :=
 Nat.le_trans (JL _ _) (by rw [List.length_drop]; omega)
theorem oO {b : UInt8} (h : CD b = true) : b.toNat < 128 := by
 have := odt (C9 h).2
 omega
theorem UF {is : UInt8 → Bool} {l : List UInt8} {b : UInt8} (hb : l[0]? = some b) (hl : b.toNat < 128) (h : is b = true) : 0 < spanP is l := by
 obtain ⟨b', r, rfl⟩ : ∃ b' r, l = b' :: r := by cases l with | nil => simp at hb | cons b' r => exact ⟨b', r, rfl⟩
 obtain rfl : b' = b := by simpa using hb
 unfold spanP
 split
 ·simp
 ·have hs : (ByteArray.mk (b' :: r).toArray).size = r.length + 1 := by show (b' :: r).toArray.size = _; simp
  have hd : Utf8.decode ⟨(b' :: r).toArray⟩ 0 = (b'.toNat, 1) := Go.decode_ascii _ 0 (by omega) hl
  have hq : MH is b'.toNat = false := by
   unfold MH
   rw [UInt8.ofNat_toNat, h]
   simp only [Bool.not_true, Bool.or_false, decide_eq_false_iff_not]; omega
  have h0 : KM is (b' :: r) = Lib.idxFuncFrom (MH is) true ⟨(b' :: r).toArray⟩ r.length 1 := by
   unfold KM Lib.idxFunc
   rw [hs, Lib.idxFuncFrom, if_pos (by omega), hd]
   simp only [hq, Bool.false_eq_true, if_false, Nat.zero_add]
  have h1 := Lib.idxFuncFrom_range (MH is) true ⟨(b' :: r).toArray⟩ r.length 1
  rw [← h0] at h1
  rcases h1 with h1 | h1 <;> omega
theorem F9 (x : Lx) (e : Int) (p : Nat) : (x.fail e p).at_ = x.at_ := by unfold Lx.fail; split <;> rfl
theorem NT (t : List UInt8) (x : Lx) : (GL t x).at_ = x.at_ := by
 unfold GL
 split
 ·exact F9 _ _ _
 ·split
  ·rfl
  ·exact F9 _ _ _
theorem KT (t : List UInt8) (x : Lx) : (E7 t x).at_ = x.at_ := by
 unfold E7
 repeat' split
 all_goals first | rfl | exact F9 _ _ _
def sgnN (r : List UInt8) : Nat := if ((AH (r.take (min 2 r.length))).isSome && (decide ((1 : Int) < ((r.length : Nat) : Int)))) then 2 else 1
theorem dD {r : List UInt8} (h : ¬ r = []) : sgnN r ≤ r.length := by
 have : 0 < r.length := List.length_pos_iff.2 h
 unfold sgnN
 split
 ·rename_i h1
  have := odt (C9 h1).2
  omega
 ·omega
theorem lR (r : List UInt8) : sgnN r ≤ 2 := by unfold sgnN; split <;> omega
def HM (s r : List UInt8) (x : Lx) : Lx :=
 if r = [] ∨ ¬ x.e = 0 then ⟨s.length - r.length, .zero, [], s.length - r.length, true, x.e, x.wh⟩
 else if CD (r.headD 0) = true then { GL (r.take (spanP CD r)) ⟨s.length - r.length, .zero, [], s.length - r.length, false, x.e, x.wh⟩ with at_ := (GL (r.take (spanP CD r)) ⟨s.length - r.length, .zero, [], s.length - r.length, false, x.e, x.wh⟩).at_ + spanP CD r }
 else if DP (r.headD 0) = true then { E7 (r.take (spanP CT r)) ⟨s.length - r.length, .zero, [], s.length - r.length, false, x.e, x.wh⟩ with at_ := (E7 (r.take (spanP CT r)) ⟨s.length - r.length, .zero, [], s.length - r.length, false, x.e, x.wh⟩).at_ + spanP CT r }
 else if ((r.headD 0).toNat : Int) = 39 then HI r ⟨s.length - r.length, .zero, [], s.length - r.length, false, x.e, x.wh⟩
 else if (((!(AH (r.take (sgnN r))).isSome) && (!decide ((r.take (sgnN r)) = [40]))) && (!decide ((r.take (sgnN r)) = [41]))) = true then
  { (⟨s.length - r.length, .zero, r.take (sgnN r), s.length - r.length, false, x.e, x.wh⟩ : Lx).fail 4 (s.length - r.length) with at_ := ((⟨s.length - r.length, .zero, r.take (sgnN r), s.length - r.length, false, x.e, x.wh⟩ : Lx).fail 4 (s.length - r.length)).at_ + sgnN r }
 else ⟨s.length - r.length + sgnN r, .zero, r.take (sgnN r), s.length - r.length, false, x.e, x.wh⟩
def B6 (s : List UInt8) (x : Lx) : Lx := HM s (N7 (s.drop x.at_)) x
theorem JR {s r : List UInt8} {x : Lx} (h : N7 (s.drop x.at_) = r) : B6 s x = HM s r x := h ▸ rfl
section
variable {s r : List UInt8} {x : Lx} {b : UInt8}
theorem OO (h : r = [] ∨ ¬ x.e = 0) : HM s r x = ⟨s.length - r.length, .zero, [], s.length - r.length, true, x.e, x.wh⟩ := if_pos h
theorem UP (h : ¬ r = [] ∧ x.e = 0) (hb : r[0]? = some b) (h1 : CD b = true) : HM s r x = { GL (r.take (spanP CD r)) ⟨s.length - r.length, .zero, [], s.length - r.length, false, x.e, x.wh⟩ with at_ := (GL (r.take (spanP CD r)) ⟨s.length - r.length, .zero, [], s.length - r.length, false, x.e, x.wh⟩).at_ + spanP CD r } := by
 rw [HM, if_neg (fun z => z.elim h.1 (fun z => z h.2)), Q0 hb, if_pos h1]
theorem S1 (h : ¬ r = [] ∧ x.e = 0) (hb : r[0]? = some b) (h1 : CD b = false) (h2 : DP b = true) : HM s r x = { E7 (r.take (spanP CT r)) ⟨s.length - r.length, .zero, [], s.length - r.length, false, x.e, x.wh⟩ with at_ := (E7 (r.take (spanP CT r)) ⟨s.length - r.length, .zero, [], s.length - r.length, false, x.e, x.wh⟩).at_ + spanP CT r } := by
 rw [HM, if_neg (fun z => z.elim h.1 (fun z => z h.2)), Q0 hb, if_neg (BE h1), if_pos h2]
theorem S2 (h : ¬ r = [] ∧ x.e = 0) (hb : r[0]? = some b) (h1 : CD b = false) (h2 : DP b = false) (h3 : (b.toNat : Int) = 39) : HM s r x = HI r ⟨s.length - r.length, .zero, [], s.length - r.length, false, x.e, x.wh⟩ := by
 rw [HM, if_neg (fun z => z.elim h.1 (fun z => z h.2)), Q0 hb, if_neg (BE h1), if_neg (BE h2), if_pos h3]
theorem UQ (h : ¬ r = [] ∧ x.e = 0) (hb : r[0]? = some b) (h1 : CD b = false) (h2 : DP b = false) (h3 : ¬ (b.toNat : Int) = 39)
 (h4 : (((!(AH (r.take (sgnN r))).isSome) && (!decide ((r.take (sgnN r)) = [40]))) && (!decide ((r.take (sgnN r)) = [41]))) = true) : HM s r x = { (⟨s.length - r.length, .zero, r.take (sgnN r), s.length - r.length, false, x.e, x.wh⟩ : Lx).fail 4 (s.length - r.length) with at_ := ((⟨s.length - r.length, .zero, r.take (sgnN r), s.length - r.length, false, x.e, x.wh⟩ : Lx).fail 4 (s.length - r.length)).at_ + sgnN r } := by
 rw [HM, if_neg (fun z => z.elim h.1 (fun z => z h.2)), Q0 hb, if_neg (BE h1), if_neg (BE h2), if_neg h3, if_pos h4]
theorem S3 (h : ¬ r = [] ∧ x.e = 0) (hb : r[0]? = some b) (h1 : CD b = false) (h2 : DP b = false) (h3 : ¬ (b.toNat : Int) = 39)
 (h4 : (((!(AH (r.take (sgnN r))).isSome) && (!decide ((r.take (sgnN r)) = [40]))) && (!decide ((r.take (sgnN r)) = [41]))) = false) : HM s r x = ⟨s.length - r.length + sgnN r, .zero, r.take (sgnN r), s.length - r.length, false, x.e, x.wh⟩ := by
 rw [HM, if_neg (fun z => z.elim h.1 (fun z => z h.2)), Q0 hb, if_neg (BE h1), if_neg (BE h2), if_neg h3, if_neg (BE h4)]
end
theorem OC (a2 : Int) (a3 : Bool) : prog.built 140 [(2, .int .i64 a2), (3, .bool a3)] = some #[.int .u8 0, .int .u8 0, .int .i64 0, .bool false, str [], str [], .slice none 0 0, str [], .int .i64 a2, .bool a3] := by kernel_rfl
theorem qP : (prog.info? 4).map (·.size) = some 1 := by kernel_rfl
theorem D1 : (prog.info? 148).map (·.size) = some 2 := by kernel_rfl
theorem TU : (prog.info? 140).map (·.size) = some 10 := by kernel_rfl
theorem BO : (prog.info? 148).map (·.zero) = some (some (.agg #[.int .u8 0, .int .i64 0])) := by kernel_rfl
theorem G5 (s : List UInt8) (x : Lx) (gx : Nat)  (w : World) (hb : Blk w gx 142 (Lx.cells s x)) (hA : x.at_ ≤ s.length) (hl : s.length ≤ 256) (hY : Lay0 w) (hgx : nGlob ≤ gx) :
 Calls prog 122 #[pg gx] w fun e w' => e = .returned (.tuple #[]) ∧ Blk w' gx 142 (Lx.cells s (B6 s x)) ∧ Fr (fun k => k = gx) w w' := by
 have hGx : ∀ k, k = gx → nGlob ≤ k := fun _ e => e ▸ hgx
 obtain ⟨r, hr⟩ : ∃ r, N7 (s.drop x.at_) = r := ⟨_, rfl⟩
 have hrl : r.length ≤ s.length := hr ▸ JZ _ _
 refine AJ (vs := [_]) func122 rfl ntmps122 rfl ?_
 have M : Mem w (fun k => k = gx) [As.blk gx 142 (Lx.cells s x)] w := Mem.one hb
 refine A9 (GC 9 DV (by kernel_rfl) ?_)
 have M := M.drew
 refine sb rfl (sb rfl (sb rfl (sd rfl rfl (M.cell 0 rfl rfl) (sb rfl (sb rfl (sb rfl (sd rfl rfl (M.cell 0 rfl rfl) (sa rfl (pS rfl rfl rfl underlying9 (by first | omega | (simp; omega))) (E9 (cl 20 rfl (AE rfl rfl call144) (kX _ hr) ?_))))))))))
 rintro _ _ ⟨rfl, rfl⟩
 refine ⟨_, rfl, yb rfl (A4 (A5 (A9 (A0 ?_))))⟩
 iterate 4 refine yb rfl ?_
 refine yl rfl rfl (M.cell 0 rfl rfl) (ya rfl (E3 rfl rfl underlying9) (yb rfl (ya rfl (E3 rfl rfl underlying9) (ya rfl (uM rfl rfl rfl hrl (by omega)) (yb rfl (yb rfl (BP (cs' := [str s, .int .i64 ((s.length - r.length : Nat) : Int), .int .u8 (x.nd.op.toNat : Int), .int .u8 (x.nd.vl.kind.toNat : Int), .int .i64 x.nd.vl.int, .bool x.nd.vl.bool, str x.nd.vl.text, str x.nd.nm, .slice none 0 0, str x.say, .int .i64 ((x.tat : Nat) : Int), .bool x.fin, .int .i64 x.e, .int .i64 ((x.wh : Nat) : Int)]) M 0 (AA rfl) rfl rfl rfl rfl rfl rfl rfl IG (AZ rfl) rfl fun w2 M => A4 (A5 (A9 (A0 ?_))))))))))
 iterate 4 refine yb rfl ?_
 refine yl rfl rfl (M.cell 0 rfl rfl) (ya rfl (BU (parts := [(2, _), (3, _)]) rfl rfl (OC _ _)) (yb rfl (yb rfl (B8 (cs' := [str s, .int .i64 ((s.length - r.length : Nat) : Int), .int .u8 0, .int .u8 0, .int .i64 0, .bool false, str [], str [], .slice none 0 0, str [], .int .i64 ((s.length - r.length : Nat) : Int), .bool true, .int .i64 x.e, .int .i64 ((x.wh : Nat) : Int)]) M 0 (AA rfl) rfl rfl rfl rfl rfl TU rfl (AI rfl) (AY rfl) rfl fun w3 M => A4 (A5 (A9 (A9 (A0 (yb rfl (ya rfl (DE rfl rfl rfl) (yb rfl (AX 6 [(0, pg gx), (2, str r), (48, .bool ((decide (r = [])) || (!decide (x.e = (0 : Int)))))] (fun w' => Mem w (fun k => k = gx) [As.blk gx 142 [str s, .int .i64 ((s.length - r.length : Nat) : Int), .int .u8 0, .int .u8 0, .int .i64 0, .bool false, str [], str [], .slice none 0 0, str [], .int .i64 ((s.length - r.length : Nat) : Int), .bool true, .int .i64 x.e, .int .i64 ((x.wh : Nat) : Int)]] w') ?_ (fun k42 => ?_)))))))))))))
 ·intro w4 M
  refine A4 (A5 (AT (b := ((decide (r = [])) || (!decide (x.e = (0 : Int))))) rfl (fun h48 => ?_) (fun h48 => ?_)))
  ·have h48p := ((EL h48).imp (fun z => (odt z)) (fun z => (odf (C4 z))))
   exact AF (AB (C3 (Or.inl rfl) rfl ⟨rfl, by rw [JR hr, OO h48p]; exact M.blk 0 rfl, M.fr⟩))
  ·have h48p := (And.intro (odf (CE h48).1) (odt (C5 (CE h48).2)))
   have hrn : 0 < r.length := List.length_pos_iff.2 h48p.1
   refine AN (A5 (A9 (A0 ?_)))
   iterate 4 refine yb rfl ?_
   refine BP (cs' := [str s, .int .i64 ((s.length - r.length : Nat) : Int), .int .u8 0, .int .u8 0, .int .i64 0, .bool false, str [], str [], .slice none 0 0, str [], .int .i64 ((s.length - r.length : Nat) : Int), .bool false, .int .i64 x.e, .int .i64 ((x.wh : Nat) : Int)]) M 0 (AA rfl) rfl rfl rfl rfl rfl rfl rfl qP (AZ rfl) rfl fun w5 M => A4 (A5 (A9 (A0 (yb rfl ?_))))
   obtain ⟨b, hb⟩ := DA (l := r) (i := 0) (by omega)
   refine ya rfl (FJ rfl rfl rfl underlying9 hb) (yb rfl (A4 (A5 (AV (A9 (A0 (yb rfl (cp M 122 rfl (AE rfl rfl call145) (T6 _ _) fun w6 M => yb rfl (A4 (A5 (AT (b := (CD b)) rfl (fun h120 => ?_) (fun h120 => ?_))))))))))))
   ·refine A9 (A0 (yb rfl (cp M 124 rfl (AE rfl rfl call146) (dC CD 145 call145 T6 r _) fun w7 M => ?_)))
    have hsp := NN CD r
    have htl : (r.take (spanP CD r)).length ≤ r.length := by rw [List.length_take]; omega
    have hpos : 0 < (r.take (spanP CD r)).length := by have := UF (is := CD) hb (oO h120) h120; rw [List.length_take]; omega
    refine yb rfl (A4 (A5 (A9 (A0 (yb rfl (yb rfl (yb rfl (ya rfl (cO rfl rfl rfl underlying9 (by first | omega | (simp; omega))) (cl 129 rfl (AE rfl rfl call147) (mW s (⟨s.length - r.length, .zero, [], s.length - r.length, false, x.e, x.wh⟩ : Lx) _ _ _ (M.blk 0 rfl) (by first | omega | assumption) (by first | omega | assumption) (hY.fr M.fr hGx) hgx) ?_)))))))))
    rintro _ w8 ⟨rfl, hbw8, hfw8⟩
    have M := M.putB 0 rfl hbw8 hfw8
    refine ⟨_, rfl, A4 (A5 (A0 (yb rfl (yb rfl (yb rfl (yl rfl rfl (M.cell 0 rfl rfl) (yb rfl (ya rfl (CI rfl rfl rfl (by first | omega | (simp only [NT]; omega) | (simp only [KT]; omega) | (simp only [F9]; omega))) (yb rfl (yb rfl (BP (cs' := [str s, .int .i64 ((((GL (r.take (spanP CD r)) (⟨s.length - r.length, .zero, [], s.length - r.length, false, x.e, x.wh⟩ : Lx)).at_) + (spanP CD r) : Nat) : Int), .int .u8 ((GL (r.take (spanP CD r)) (⟨s.length - r.length, .zero, [], s.length - r.length, false, x.e, x.wh⟩ : Lx)).nd.op.toNat : Int), .int .u8 ((GL (r.take (spanP CD r)) (⟨s.length - r.length, .zero, [], s.length - r.length, false, x.e, x.wh⟩ : Lx)).nd.vl.kind.toNat : Int), .int .i64 ((GL (r.take (spanP CD r)) (⟨s.length - r.length, .zero, [], s.length - r.length, false, x.e, x.wh⟩ : Lx)).nd.vl.int), .bool ((GL (r.take (spanP CD r)) (⟨s.length - r.length, .zero, [], s.length - r.length, false, x.e, x.wh⟩ : Lx)).nd.vl.bool), str ((GL (r.take (spanP CD r)) (⟨s.length - r.length, .zero, [], s.length - r.length, false, x.e, x.wh⟩ : Lx)).nd.vl.text), str ((GL (r.take (spanP CD r)) (⟨s.length - r.length, .zero, [], s.length - r.length, false, x.e, x.wh⟩ : Lx)).nd.nm), .slice none 0 0, str ((GL (r.take (spanP CD r)) (⟨s.length - r.length, .zero, [], s.length - r.length, false, x.e, x.wh⟩ : Lx)).say), .int .i64 (((GL (r.take (spanP CD r)) (⟨s.length - r.length, .zero, [], s.length - r.length, false, x.e, x.wh⟩ : Lx)).tat : Nat) : Int), .bool ((GL (r.take (spanP CD r)) (⟨s.length - r.length, .zero, [], s.length - r.length, false, x.e, x.wh⟩ : Lx)).fin), .int .i64 ((GL (r.take (spanP CD r)) (⟨s.length - r.length, .zero, [], s.length - r.length, false, x.e, x.wh⟩ : Lx)).e), .int .i64 (((GL (r.take (spanP CD r)) (⟨s.length - r.length, .zero, [], s.length - r.length, false, x.e, x.wh⟩ : Lx)).wh : Nat) : Int)]) M 0 (AA rfl) rfl rfl rfl rfl rfl rfl rfl IG (AZ rfl) rfl fun w9 M => A4 (AC ?_))))))))))))⟩
    exact C3 (Or.inr rfl) rfl ⟨rfl, by rw [JR hr, UP h48p hb h120]; exact M.blk 0 rfl, M.fr⟩
   ·refine A9 (A0 (yb rfl (cp M 140 rfl (AE rfl rfl call148) (UV _ _) fun w10 M => yb rfl (A4 (A5 (AT (b := (DP b)) rfl (fun h138 => ?_) (fun h138 => ?_)))))))
    ·refine A9 (A0 (yb rfl (cp M 142 rfl (AE rfl rfl call146) (dC CT 149 call149 j5 r _) fun w11 M => ?_)))
     have hsp := NN CT r
     have htl : (r.take (spanP CT r)).length ≤ r.length := by rw [List.length_take]; omega
     refine yb rfl (A4 (A5 (A9 (A0 (yb rfl (yb rfl (yb rfl (ya rfl (cO rfl rfl rfl underlying9 (by first | omega | (simp; omega))) (cl 147 rfl (AE rfl rfl call150) (iQ s (⟨s.length - r.length, .zero, [], s.length - r.length, false, x.e, x.wh⟩ : Lx) _ _ _ (M.blk 0 rfl) (by first | omega | assumption)) ?_)))))))))
     rintro _ w12 ⟨rfl, hbw12, hfw12⟩
     have M := M.putB 0 rfl hbw12 hfw12
     refine ⟨_, rfl, A4 (A5 (A0 (yb rfl (yb rfl (yb rfl (yl rfl rfl (M.cell 0 rfl rfl) (yb rfl (ya rfl (CI rfl rfl rfl (by first | omega | (simp only [NT]; omega) | (simp only [KT]; omega) | (simp only [F9]; omega))) (yb rfl (yb rfl (BP (cs' := [str s, .int .i64 ((((E7 (r.take (spanP CT r)) (⟨s.length - r.length, .zero, [], s.length - r.length, false, x.e, x.wh⟩ : Lx)).at_) + (spanP CT r) : Nat) : Int), .int .u8 ((E7 (r.take (spanP CT r)) (⟨s.length - r.length, .zero, [], s.length - r.length, false, x.e, x.wh⟩ : Lx)).nd.op.toNat : Int), .int .u8 ((E7 (r.take (spanP CT r)) (⟨s.length - r.length, .zero, [], s.length - r.length, false, x.e, x.wh⟩ : Lx)).nd.vl.kind.toNat : Int), .int .i64 ((E7 (r.take (spanP CT r)) (⟨s.length - r.length, .zero, [], s.length - r.length, false, x.e, x.wh⟩ : Lx)).nd.vl.int), .bool ((E7 (r.take (spanP CT r)) (⟨s.length - r.length, .zero, [], s.length - r.length, false, x.e, x.wh⟩ : Lx)).nd.vl.bool), str ((E7 (r.take (spanP CT r)) (⟨s.length - r.length, .zero, [], s.length - r.length, false, x.e, x.wh⟩ : Lx)).nd.vl.text), str ((E7 (r.take (spanP CT r)) (⟨s.length - r.length, .zero, [], s.length - r.length, false, x.e, x.wh⟩ : Lx)).nd.nm), .slice none 0 0, str ((E7 (r.take (spanP CT r)) (⟨s.length - r.length, .zero, [], s.length - r.length, false, x.e, x.wh⟩ : Lx)).say), .int .i64 (((E7 (r.take (spanP CT r)) (⟨s.length - r.length, .zero, [], s.length - r.length, false, x.e, x.wh⟩ : Lx)).tat : Nat) : Int), .bool ((E7 (r.take (spanP CT r)) (⟨s.length - r.length, .zero, [], s.length - r.length, false, x.e, x.wh⟩ : Lx)).fin), .int .i64 ((E7 (r.take (spanP CT r)) (⟨s.length - r.length, .zero, [], s.length - r.length, false, x.e, x.wh⟩ : Lx)).e), .int .i64 (((E7 (r.take (spanP CT r)) (⟨s.length - r.length, .zero, [], s.length - r.length, false, x.e, x.wh⟩ : Lx)).wh : Nat) : Int)]) M 0 (AA rfl) rfl rfl rfl rfl rfl rfl rfl IG (AZ rfl) rfl fun w13 M => A4 (AC ?_))))))))))))⟩
     exact C3 (Or.inr rfl) rfl ⟨rfl, by rw [JR hr, S1 h48p hb h120 h138]; exact M.blk 0 rfl, M.fr⟩
    ·refine A9 (A0 (yb rfl (ya rfl (BB rfl rfl rfl) (yb rfl (A4 (A5 (AT (b := (decide ((b.toNat : Int) = (39 : Int)))) rfl (fun h156 => ?_) (fun h156 => ?_))))))))
     ·have h156p := (odt h156)
      refine A0 (yb rfl (yb rfl (cl 161 rfl (AE rfl rfl call151) (iR s (⟨s.length - r.length, .zero, [], s.length - r.length, false, x.e, x.wh⟩ : Lx) _ _ _ (M.blk 0 rfl) (by first | omega | assumption) (by first | omega | assumption | (dsimp only; omega)) (hY.fr M.fr hGx) hgx) ?_)))
      rintro _ w14 ⟨rfl, hbw14, hfw14⟩
      have M := M.putB 0 rfl hbw14 hfw14
      exact ⟨_, rfl, A4 (AC (C3 (Or.inr rfl) rfl ⟨rfl, by rw [JR hr, S2 h48p hb h120 h138 h156p]; exact M.blk 0 rfl, M.fr⟩))⟩
     ·have h156p := (odf h156)
      have hsg := dD h48p.1
      have hsg2 := lR r
      refine A9 (A0 (yb rfl (A4 (A5 (A9 (A9 (NL (fun (g7 : Nat) (g56 : Nat) => [(0, pg gx), (2, str r), (6, .int .i64 1), (8, .bool ((AH (r.take (min 2 r.length))).isSome))]) (fun (g7 : Nat) (g56 : Nat) => fun w' => Mem w (fun k => k = gx) [As.blk g7 148 [.int .u8 (((AH (r.take (min 2 r.length))).getD (0, 0)).1.toNat : Int), .int .i64 ((((AH (r.take (min 2 r.length))).getD (0, 0)).2 : Nat) : Int)], As.mp g56 D2, As.blk gx 142 [str s, .int .i64 ((s.length - r.length : Nat) : Int), .int .u8 0, .int .u8 0, .int .i64 0, .bool false, str [], str [], .slice none 0 0, str [], .int .i64 ((s.length - r.length : Nat) : Int), .bool false, .int .i64 x.e, .int .i64 ((x.wh : Nat) : Int)]] w') ?_ (fun kr7 => ?_))))))))
      ·intro g7 g56 w15 M
       refine A5 (A9 (A0 (yb rfl (yb rfl (AX 4 [(0, pg gx), (2, str r), (6, .int .i64 1), (70, .bool ((AH (r.take (min 2 r.length))).isSome && (decide ((1 : Int) < ((r.length : Nat) : Int)))))] (fun w' => Mem w (fun k => k = gx) [As.blk g7 148 [.int .u8 (((AH (r.take (min 2 r.length))).getD (0, 0)).1.toNat : Int), .int .i64 ((((AH (r.take (min 2 r.length))).getD (0, 0)).2 : Nat) : Int)], As.mp g56 D2, As.blk gx 142 [str s, .int .i64 ((s.length - r.length : Nat) : Int), .int .u8 0, .int .u8 0, .int .i64 0, .bool false, str [], str [], .slice none 0 0, str [], .int .i64 ((s.length - r.length : Nat) : Int), .bool false, .int .i64 x.e, .int .i64 ((x.wh : Nat) : Int)]] w') ?_ (fun k66 => ?_))))))
       ·intro w16 M
        refine A4 (A5 (QN [(0, pg gx), (2, str r), (6, .int .i64 ((sgnN r : Nat) : Int))] (fun w' => Mem w (fun k => k = gx) [As.blk g7 148 [.int .u8 (((AH (r.take (min 2 r.length))).getD (0, 0)).1.toNat : Int), .int .i64 ((((AH (r.take (min 2 r.length))).getD (0, 0)).2 : Nat) : Int)], As.mp g56 D2, As.blk gx 142 [str s, .int .i64 ((s.length - r.length : Nat) : Int), .int .u8 0, .int .u8 0, .int .i64 0, .bool false, str [], str [], .slice none 0 0, str [], .int .i64 ((s.length - r.length : Nat) : Int), .bool false, .int .i64 x.e, .int .i64 ((x.wh : Nat) : Int)]] w') ?_ (fun k70 => ?_)))
        ·intro w17 M
         refine A5 (A9 (A0 (yb rfl (yb rfl (yb rfl (ya rfl (cO rfl rfl rfl underlying9 (by first | omega | (simp; omega))) (yb rfl (yb rfl (yb rfl (BP (cs' := [str s, .int .i64 ((s.length - r.length : Nat) : Int), .int .u8 0, .int .u8 0, .int .i64 0, .bool false, str [], str [], .slice none 0 0, str (r.take (sgnN r)), .int .i64 ((s.length - r.length : Nat) : Int), .bool false, .int .i64 x.e, .int .i64 ((x.wh : Nat) : Int)]) M 2 (AA rfl) rfl rfl rfl rfl rfl rfl rfl sz_string (AZ rfl) rfl fun w18 M => A4 (A5 (A9 (A9 ?_)))))))))))))
         refine NL (fun (g9 : Nat) (g79 : Nat) => [(0, pg gx), (6, .int .i64 ((sgnN r : Nat) : Int)), (10, .bool ((AH (r.take (sgnN r))).isSome))]) (fun (g9 : Nat) (g79 : Nat) => fun w' => Mem w (fun k => k = gx) [As.blk g9 148 [.int .u8 (((AH (r.take (sgnN r))).getD (0, 0)).1.toNat : Int), .int .i64 ((((AH (r.take (sgnN r))).getD (0, 0)).2 : Nat) : Int)], As.mp g79 D2, As.blk g7 148 [.int .u8 (((AH (r.take (min 2 r.length))).getD (0, 0)).1.toNat : Int), .int .i64 ((((AH (r.take (min 2 r.length))).getD (0, 0)).2 : Nat) : Int)], As.mp g56 D2, As.blk gx 142 [str s, .int .i64 ((s.length - r.length : Nat) : Int), .int .u8 0, .int .u8 0, .int .i64 0, .bool false, str [], str [], .slice none 0 0, str (r.take (sgnN r)), .int .i64 ((s.length - r.length : Nat) : Int), .bool false, .int .i64 x.e, .int .i64 ((x.wh : Nat) : Int)]] w') ?_ (fun kr11 => ?_)
         ·intro g9 g79 w19 M
          refine A5 (A9 (A0 (yb rfl (yb rfl (yb rfl (AX 7 [(0, pg gx), (6, .int .i64 ((sgnN r : Nat) : Int)), (97, .bool ((!(AH (r.take (sgnN r))).isSome) && (!decide ((r.take (sgnN r)) = [40]))))] (fun w' => Mem w (fun k => k = gx) [As.blk g9 148 [.int .u8 (((AH (r.take (sgnN r))).getD (0, 0)).1.toNat : Int), .int .i64 ((((AH (r.take (sgnN r))).getD (0, 0)).2 : Nat) : Int)], As.mp g79 D2, As.blk g7 148 [.int .u8 (((AH (r.take (min 2 r.length))).getD (0, 0)).1.toNat : Int), .int .i64 ((((AH (r.take (min 2 r.length))).getD (0, 0)).2 : Nat) : Int)], As.mp g56 D2, As.blk gx 142 [str s, .int .i64 ((s.length - r.length : Nat) : Int), .int .u8 0, .int .u8 0, .int .i64 0, .bool false, str [], str [], .slice none 0 0, str (r.take (sgnN r)), .int .i64 ((s.length - r.length : Nat) : Int), .bool false, .int .i64 x.e, .int .i64 ((x.wh : Nat) : Int)]] w') ?_ (fun k90 => ?_)))))))
          ·intro w20 M
           refine yb rfl (AX 7 [(0, pg gx), (6, .int .i64 ((sgnN r : Nat) : Int)), (105, .bool (((!(AH (r.take (sgnN r))).isSome) && (!decide ((r.take (sgnN r)) = [40]))) && (!decide ((r.take (sgnN r)) = [41]))))] (fun w' => Mem w (fun k => k = gx) [As.blk g9 148 [.int .u8 (((AH (r.take (sgnN r))).getD (0, 0)).1.toNat : Int), .int .i64 ((((AH (r.take (sgnN r))).getD (0, 0)).2 : Nat) : Int)], As.mp g79 D2, As.blk g7 148 [.int .u8 (((AH (r.take (min 2 r.length))).getD (0, 0)).1.toNat : Int), .int .i64 ((((AH (r.take (min 2 r.length))).getD (0, 0)).2 : Nat) : Int)], As.mp g56 D2, As.blk gx 142 [str s, .int .i64 ((s.length - r.length : Nat) : Int), .int .u8 0, .int .u8 0, .int .i64 0, .bool false, str [], str [], .slice none 0 0, str (r.take (sgnN r)), .int .i64 ((s.length - r.length : Nat) : Int), .bool false, .int .i64 x.e, .int .i64 ((x.wh : Nat) : Int)]] w') ?_ (fun k98 => ?_))
           ·intro w21 M
            refine A4 (A5 (AT (b := (((!(AH (r.take (sgnN r))).isSome) && (!decide ((r.take (sgnN r)) = [40]))) && (!decide ((r.take (sgnN r)) = [41])))) rfl (fun h105 => ?_) (fun h105 => ?_)))
            ·have h105p := (And.intro (And.intro (C4 (C9 (C9 h105).1).1) (odf (C4 (C9 (C9 h105).1).2))) (odf (C4 (C9 h105).2)))
             refine A0 ?_
             iterate 4 refine yb rfl ?_
             refine yl rfl rfl (M.cell 4 rfl rfl) (cl 111 rfl (AE rfl rfl call125) (EC s (⟨s.length - r.length, .zero, (r.take (sgnN r)), s.length - r.length, false, x.e, x.wh⟩ : Lx) _ _ _ _ (M.blk 4 rfl)) ?_)
             rintro _ w22 ⟨rfl, hbw22, hfw22⟩
             have M := M.putB 4 rfl hbw22 hfw22
             refine ⟨_, rfl, A4 (A5 (A0 (yb rfl (yb rfl (yb rfl (yl rfl rfl (M.cell 4 rfl rfl) (yb rfl (ya rfl (CI rfl rfl rfl (by first | omega | (simp only [NT]; omega) | (simp only [KT]; omega) | (simp only [F9]; omega))) (yb rfl (yb rfl (BP (cs' := [str s, .int .i64 (((((⟨s.length - r.length, .zero, (r.take (sgnN r)), s.length - r.length, false, x.e, x.wh⟩ : Lx).fail 4 (s.length - r.length)).at_) + (sgnN r) : Nat) : Int), .int .u8 (((⟨s.length - r.length, .zero, (r.take (sgnN r)), s.length - r.length, false, x.e, x.wh⟩ : Lx).fail 4 (s.length - r.length)).nd.op.toNat : Int), .int .u8 (((⟨s.length - r.length, .zero, (r.take (sgnN r)), s.length - r.length, false, x.e, x.wh⟩ : Lx).fail 4 (s.length - r.length)).nd.vl.kind.toNat : Int), .int .i64 (((⟨s.length - r.length, .zero, (r.take (sgnN r)), s.length - r.length, false, x.e, x.wh⟩ : Lx).fail 4 (s.length - r.length)).nd.vl.int), .bool (((⟨s.length - r.length, .zero, (r.take (sgnN r)), s.length - r.length, false, x.e, x.wh⟩ : Lx).fail 4 (s.length - r.length)).nd.vl.bool), str (((⟨s.length - r.length, .zero, (r.take (sgnN r)), s.length - r.length, false, x.e, x.wh⟩ : Lx).fail 4 (s.length - r.length)).nd.vl.text), str (((⟨s.length - r.length, .zero, (r.take (sgnN r)), s.length - r.length, false, x.e, x.wh⟩ : Lx).fail 4 (s.length - r.length)).nd.nm), .slice none 0 0, str (((⟨s.length - r.length, .zero, (r.take (sgnN r)), s.length - r.length, false, x.e, x.wh⟩ : Lx).fail 4 (s.length - r.length)).say), .int .i64 ((((⟨s.length - r.length, .zero, (r.take (sgnN r)), s.length - r.length, false, x.e, x.wh⟩ : Lx).fail 4 (s.length - r.length)).tat : Nat) : Int), .bool (((⟨s.length - r.length, .zero, (r.take (sgnN r)), s.length - r.length, false, x.e, x.wh⟩ : Lx).fail 4 (s.length - r.length)).fin), .int .i64 (((⟨s.length - r.length, .zero, (r.take (sgnN r)), s.length - r.length, false, x.e, x.wh⟩ : Lx).fail 4 (s.length - r.length)).e), .int .i64 ((((⟨s.length - r.length, .zero, (r.take (sgnN r)), s.length - r.length, false, x.e, x.wh⟩ : Lx).fail 4 (s.length - r.length)).wh : Nat) : Int)]) M 4 (AA rfl) rfl rfl rfl rfl rfl rfl rfl IG (AZ rfl) rfl fun w23 M => A4 (AC ?_))))))))))))⟩
             exact C3 (Or.inr rfl) rfl ⟨rfl, by rw [JR hr, UQ h48p hb h120 h138 h156p h105]; exact M.blk 4 rfl, M.fr⟩
            ·have h105p := ((EH h105).imp (fun z => ((EH z).imp (fun z => (C5 z)) (fun z => (odt (C5 z))))) (fun z => (odt (C5 z))))
             refine AN (A5 (A0 (yb rfl (yb rfl (yb rfl (yl rfl rfl (M.cell 4 rfl rfl) (yb rfl (ya rfl (CI rfl rfl rfl (by first | omega | (simp only [NT]; omega) | (simp only [KT]; omega) | (simp only [F9]; omega))) (yb rfl (yb rfl (BP (cs' := [str s, .int .i64 (((s.length - r.length) + (sgnN r) : Nat) : Int), .int .u8 0, .int .u8 0, .int .i64 0, .bool false, str [], str [], .slice none 0 0, str (r.take (sgnN r)), .int .i64 ((s.length - r.length : Nat) : Int), .bool false, .int .i64 x.e, .int .i64 ((x.wh : Nat) : Int)]) M 4 (AA rfl) rfl rfl rfl rfl rfl rfl rfl IG (AZ rfl) rfl fun w24 M => A4 (AC (C3 (Or.inr rfl) rfl ?_)))))))))))))
             exact ⟨rfl, by rw [JR hr, S3 h48p hb h120 h138 h156p h105]; exact M.blk 4 rfl, M.fr⟩
           refine AM (d := 98) (b := ((!(AH (r.take (sgnN r))).isSome) && (!decide ((r.take (sgnN r)) = [40])))) rfl (fun h98 => ?_) (fun h98 => ?_)
           ·iterate 4 refine yd rfl (yp rfl) ?_
            exact ym rfl rfl (M.cell 4 rfl rfl) (yd rfl (GR rfl rfl rfl) (yb rfl (k98 _ _ M ⟨rfl, rfl, (by rw [h98]; rfl), trivial⟩)))
           ·iterate 6 refine yo rfl ?_
            exact yb rfl (k98 _ _ M ⟨rfl, rfl, (by rw [h98]; rfl), trivial⟩)
          refine AM (d := 90) (b := (!(AH (r.take (sgnN r))).isSome)) rfl (fun h90 => ?_) (fun h90 => ?_)
          ·iterate 4 refine yd rfl (yp rfl) ?_
           exact ym rfl rfl (M.cell 4 rfl rfl) (yd rfl (GR rfl rfl rfl) (yb rfl (k90 _ _ M ⟨rfl, rfl, (by rw [h90]; rfl), trivial⟩)))
          ·iterate 6 refine yo rfl ?_
           exact yb rfl (k90 _ _ M ⟨rfl, rfl, (by rw [h90]; rfl), trivial⟩)
         refine DB 13 (fun w' => Mem w (fun k => k = gx) [As.blk g7 148 [.int .u8 (((AH (r.take (min 2 r.length))).getD (0, 0)).1.toNat : Int), .int .i64 ((((AH (r.take (min 2 r.length))).getD (0, 0)).2 : Nat) : Int)], As.mp g56 D2, As.blk gx 142 [str s, .int .i64 ((s.length - r.length : Nat) : Int), .int .u8 0, .int .u8 0, .int .i64 0, .bool false, str [], str [], .slice none 0 0, str (r.take (sgnN r)), .int .i64 ((s.length - r.length : Nat) : Int), .bool false, .int .i64 x.e, .int .i64 ((x.wh : Nat) : Int)]] w') DV ?_
         have M := M.drew
         refine oc 1 13 rfl rfl M (oc 2 13 rfl rfl M (oc 3 13 rfl rfl M (oc 4 13 rfl rfl M (ol 5 13 rfl rfl rfl M (fun _ M => (M.cell 2 rfl rfl)) (J2 (rs := [0, 10]) (by kernel_rfl) (by simp) fun iz hiz => ?_)))))
         simp only [List.mem_cons, List.not_mem_nil, or_false] at hiz
         rcases hiz with rfl | rfl
         ·refine QS (some 79) rfl (AA rfl) rfl rfl (AE rfl rfl call129) (HJ _) ?_
          rintro _ w25 ⟨g79, rfl, hMw25, hgw25, hfw25⟩
          refine ⟨_, rfl, fun _ => M.step hfw25, ?_⟩
          have M := M.push hfw25 (As.mp g79 D2) hMw25 (L9 hgw25 hMw25.lt)
          refine J2 (rs := [6, 10]) (by kernel_rfl) (by simp) fun iz hiz => ?_
          simp only [List.mem_cons, List.not_mem_nil, or_false] at hiz
          rcases hiz with rfl | rfl
          ·refine EM (some 85) rfl (AA rfl) rfl rfl (eT (DH rfl rfl rfl underlying150 underlying9 BO (M.mp 0 rfl) (DY _) (GE _))) ?_
           rintro _ _ ⟨rfl, rfl⟩
           refine ⟨fun _ => (M.drop 1), oc 7 13 rfl rfl (M.drop 1) (oc 8 13 rfl rfl (M.drop 1) (oc 9 13 rfl rfl (M.drop 1) (BG 10 (some 9) (by kernel_rfl) rfl (AA rfl) rfl rfl (fun ρ hρ => C6 148 rfl _ [.int .u8 0, .int .i64 0] BO rfl) ?_)))⟩
           rintro _ w26 ⟨g9, rfl, hg9, hq9, hb9, hfw26⟩
           refine ⟨fun _ => (M.drop 1).step hfw26, ?_⟩
           have M := M.push hfw26 _ hb9 (DX hg9 hq9)
           replace M : Mem w (fun k => k = gx) (As.blk g9 148 [.int .u8 0, .int .i64 0] :: _) w26 := M
           refine BG 11 none (by kernel_rfl) rfl (AA rfl) rfl rfl (fun ρ hρ => BW 148 _ _ rfl g9 0 148 _ ([.int .u8 (((AH (r.take (sgnN r))).getD (0, 0)).1.toNat : Int), .int .i64 ((((AH (r.take (sgnN r))).getD (0, 0)).2 : Nat) : Int)]) (hρ _ _ rfl) (hρ _ _ rfl) (M.blk 0 rfl) D1 (AI rfl) (AY rfl)) ?_
           rintro _ w27 ⟨rfl, hbw27, hfw27⟩
           replace M : Mem w (fun k => k = gx) (List.set _ 0 (As.blk g9 148 [.int .u8 (((AH (r.take (sgnN r))).getD (0, 0)).1.toNat : Int), .int .i64 ((((AH (r.take (sgnN r))).getD (0, 0)).2 : Nat) : Int)])) w27 := M.putB 0 rfl hbw27 hfw27
           exact ⟨fun _ => M.drop 2, oc 12 13 rfl rfl (M.drop 2) (BN (by kernel_rfl) (kr11 g9 g79 _ _ M ⟨rfl, rfl, rfl, trivial⟩))⟩
          ·refine EM (some 9) rfl (AA rfl) rfl rfl (fun ρ hρ => C6 148 rfl _ [.int .u8 0, .int .i64 0] BO rfl) ?_
           rintro _ w28 ⟨g9, rfl, hg9, hq9, hb9, hfw28⟩
           refine ⟨fun _ => (M.drop 1).step hfw28, ?_⟩
           have M := M.push hfw28 _ hb9 (DX hg9 hq9)
           replace M : Mem w (fun k => k = gx) (As.blk g9 148 [.int .u8 0, .int .i64 0] :: _) w28 := M
           refine CY 6 (by kernel_rfl) rfl (AA rfl) rfl rfl (DH rfl rfl rfl underlying150 underlying9 BO (M.mp 1 rfl) (DY _) (GE _)) (M.drop 2) (oc 7 13 rfl rfl (M.drop 2) (oc 8 13 rfl rfl (M.drop 2) (oc 9 13 rfl rfl (M.drop 2) (BG 11 none (by kernel_rfl) rfl (AA rfl) rfl rfl (fun ρ hρ => BW 148 _ _ rfl g9 0 148 _ ([.int .u8 (((AH (r.take (sgnN r))).getD (0, 0)).1.toNat : Int), .int .i64 ((((AH (r.take (sgnN r))).getD (0, 0)).2 : Nat) : Int)]) (hρ _ _ rfl) (hρ _ _ rfl) (M.blk 0 rfl) D1 (AI rfl) (AY rfl)) ?_))))
           rintro _ w29 ⟨rfl, hbw29, hfw29⟩
           replace M : Mem w (fun k => k = gx) (List.set _ 0 (As.blk g9 148 [.int .u8 (((AH (r.take (sgnN r))).getD (0, 0)).1.toNat : Int), .int .i64 ((((AH (r.take (sgnN r))).getD (0, 0)).2 : Nat) : Int)])) w29 := M.putB 0 rfl hbw29 hfw29
           exact ⟨fun _ => M.drop 2, oc 12 13 rfl rfl (M.drop 2) (BN (by kernel_rfl) (kr11 g9 g79 _ _ M ⟨rfl, rfl, rfl, trivial⟩))⟩
         ·refine EM (some 9) rfl (AA rfl) rfl rfl (fun ρ hρ => C6 148 rfl _ [.int .u8 0, .int .i64 0] BO rfl) ?_
          rintro _ w30 ⟨g9, rfl, hg9, hq9, hb9, hfw30⟩
          refine ⟨fun _ => M.step hfw30, ?_⟩
          have M := M.push hfw30 _ hb9 (DX hg9 hq9)
          replace M : Mem w (fun k => k = gx) (As.blk g9 148 [.int .u8 0, .int .i64 0] :: _) w30 := M
          refine BY 0 (some 79) (by kernel_rfl) rfl (AA rfl) rfl rfl (AE rfl rfl call129) (HJ _) ?_
          rintro _ w31 ⟨g79, rfl, hMw31, hgw31, hfw31⟩
          refine ⟨_, rfl, fun _ => (M.drop 1).step hfw31, ?_⟩
          have M := M.push hfw31 (As.mp g79 D2) hMw31 (L9 hgw31 hMw31.lt)
          refine CY 6 (by kernel_rfl) rfl (AA rfl) rfl rfl (DH rfl rfl rfl underlying150 underlying9 BO (M.mp 0 rfl) (DY _) (GE _)) (M.drop 2) (oc 7 13 rfl rfl (M.drop 2) (oc 8 13 rfl rfl (M.drop 2) (oc 9 13 rfl rfl (M.drop 2) (BG 11 none (by kernel_rfl) rfl (AA rfl) rfl rfl (fun ρ hρ => BW 148 _ _ rfl g9 0 148 _ ([.int .u8 (((AH (r.take (sgnN r))).getD (0, 0)).1.toNat : Int), .int .i64 ((((AH (r.take (sgnN r))).getD (0, 0)).2 : Nat) : Int)]) (hρ _ _ rfl) (hρ _ _ rfl) (M.blk 1 rfl) D1 (AI rfl) (AY rfl)) ?_))))
          rintro _ w32 ⟨rfl, hbw32, hfw32⟩
          replace M : Mem w (fun k => k = gx) (List.set _ 1 (As.blk g9 148 [.int .u8 (((AH (r.take (sgnN r))).getD (0, 0)).1.toNat : Int), .int .i64 ((((AH (r.take (sgnN r))).getD (0, 0)).2 : Nat) : Int)])) w32 := M.putB 1 rfl hbw32 hfw32
          exact ⟨fun _ => M.drop 2, oc 12 13 rfl rfl (M.drop 2) (BN (by kernel_rfl) (kr11 g9 g79 _ _ (M.pk [1, 0, 2, 3, 4]) ⟨rfl, rfl, rfl, trivial⟩))⟩
        refine AT (b := ((AH (r.take (min 2 r.length))).isSome && (decide ((1 : Int) < ((r.length : Nat) : Int))))) rfl (fun h70 => ?_) (fun h70 => ?_)
        ·exact A0 (yb rfl (A4 (k70 _ _ M ⟨rfl, rfl, (by unfold sgnN; rw [h70]; rfl), trivial⟩)))
        ·exact AN (k70 _ _ M ⟨rfl, rfl, (by unfold sgnN; rw [h70]; rfl), trivial⟩)
       refine AM (d := 66) (b := (AH (r.take (min 2 r.length))).isSome) rfl (fun h66 => ?_) (fun h66 => ?_)
       ·exact yd rfl (yp rfl) (yd rfl (E3 rfl rfl underlying9) (yd rfl (FF rfl rfl rfl) (yb rfl (k66 _ _ M ⟨rfl, rfl, rfl, (by rw [h66]; rfl), trivial⟩))))
       ·exact yo rfl (yo rfl (yo rfl (yb rfl (k66 _ _ M ⟨rfl, rfl, rfl, (by rw [h66]; rfl), trivial⟩))))
      refine DB 13 (fun w' => Mem w (fun k => k = gx) [As.blk gx 142 [str s, .int .i64 ((s.length - r.length : Nat) : Int), .int .u8 0, .int .u8 0, .int .i64 0, .bool false, str [], str [], .slice none 0 0, str [], .int .i64 ((s.length - r.length : Nat) : Int), .bool false, .int .i64 x.e, .int .i64 ((x.wh : Nat) : Int)]] w') DV ?_
      have M := M.drew
      refine oc 1 13 rfl rfl M (oc 2 13 rfl rfl M (oa 3 13 rfl rfl M (fun _ M => E3 rfl rfl underlying9) (oa 4 13 rfl rfl M (fun _ M => uQ rfl rfl rfl) (oa 5 13 rfl rfl M (fun _ M => cO rfl rfl rfl underlying9 (by first | omega | (simp; omega))) (J2 (rs := [0, 10]) (by kernel_rfl) (by simp) fun iz hiz => ?_)))))
      simp only [List.mem_cons, List.not_mem_nil, or_false] at hiz
      rcases hiz with rfl | rfl
      ·refine QS (some 56) rfl (AA rfl) rfl rfl (AE rfl rfl call129) (HJ _) ?_
       rintro _ w33 ⟨g56, rfl, hMw33, hgw33, hfw33⟩
       refine ⟨_, rfl, fun _ => M.step hfw33, ?_⟩
       have M := M.push hfw33 (As.mp g56 D2) hMw33 (L9 hgw33 hMw33.lt)
       refine J2 (rs := [6, 10]) (by kernel_rfl) (by simp) fun iz hiz => ?_
       simp only [List.mem_cons, List.not_mem_nil, or_false] at hiz
       rcases hiz with rfl | rfl
       ·refine EM (some 62) rfl (AA rfl) rfl rfl (eT (DH rfl rfl rfl underlying150 underlying9 BO (M.mp 0 rfl) (DY _) (GE _))) ?_
        rintro _ _ ⟨rfl, rfl⟩
        refine ⟨fun _ => (M.drop 1), oc 7 13 rfl rfl (M.drop 1) (oc 8 13 rfl rfl (M.drop 1) (oc 9 13 rfl rfl (M.drop 1) (BG 10 (some 7) (by kernel_rfl) rfl (AA rfl) rfl rfl (fun ρ hρ => C6 148 rfl _ [.int .u8 0, .int .i64 0] BO rfl) ?_)))⟩
        rintro _ w34 ⟨g7, rfl, hg7, hq7, hb7, hfw34⟩
        refine ⟨fun _ => (M.drop 1).step hfw34, ?_⟩
        have M := M.push hfw34 _ hb7 (DX hg7 hq7)
        replace M : Mem w (fun k => k = gx) (As.blk g7 148 [.int .u8 0, .int .i64 0] :: _) w34 := M
        refine BG 11 none (by kernel_rfl) rfl (AA rfl) rfl rfl (fun ρ hρ => BW 148 _ _ rfl g7 0 148 _ ([.int .u8 (((AH (r.take (min 2 r.length))).getD (0, 0)).1.toNat : Int), .int .i64 ((((AH (r.take (min 2 r.length))).getD (0, 0)).2 : Nat) : Int)]) (hρ _ _ rfl) (hρ _ _ rfl) (M.blk 0 rfl) D1 (AI rfl) (AY rfl)) ?_
        rintro _ w35 ⟨rfl, hbw35, hfw35⟩
        replace M : Mem w (fun k => k = gx) (List.set _ 0 (As.blk g7 148 [.int .u8 (((AH (r.take (min 2 r.length))).getD (0, 0)).1.toNat : Int), .int .i64 ((((AH (r.take (min 2 r.length))).getD (0, 0)).2 : Nat) : Int)])) w35 := M.putB 0 rfl hbw35 hfw35
        exact ⟨fun _ => M.drop 2, oc 12 13 rfl rfl (M.drop 2) (BN (by kernel_rfl) (kr7 g7 g56 _ _ M ⟨rfl, rfl, rfl, rfl, trivial⟩))⟩
       ·refine EM (some 7) rfl (AA rfl) rfl rfl (fun ρ hρ => C6 148 rfl _ [.int .u8 0, .int .i64 0] BO rfl) ?_
        rintro _ w36 ⟨g7, rfl, hg7, hq7, hb7, hfw36⟩
        refine ⟨fun _ => (M.drop 1).step hfw36, ?_⟩
        have M := M.push hfw36 _ hb7 (DX hg7 hq7)
        replace M : Mem w (fun k => k = gx) (As.blk g7 148 [.int .u8 0, .int .i64 0] :: _) w36 := M
        refine CY 6 (by kernel_rfl) rfl (AA rfl) rfl rfl (DH rfl rfl rfl underlying150 underlying9 BO (M.mp 1 rfl) (DY _) (GE _)) (M.drop 2) (oc 7 13 rfl rfl (M.drop 2) (oc 8 13 rfl rfl (M.drop 2) (oc 9 13 rfl rfl (M.drop 2) (BG 11 none (by kernel_rfl) rfl (AA rfl) rfl rfl (fun ρ hρ => BW 148 _ _ rfl g7 0 148 _ ([.int .u8 (((AH (r.take (min 2 r.length))).getD (0, 0)).1.toNat : Int), .int .i64 ((((AH (r.take (min 2 r.length))).getD (0, 0)).2 : Nat) : Int)]) (hρ _ _ rfl) (hρ _ _ rfl) (M.blk 0 rfl) D1 (AI rfl) (AY rfl)) ?_))))
        rintro _ w37 ⟨rfl, hbw37, hfw37⟩
        replace M : Mem w (fun k => k = gx) (List.set _ 0 (As.blk g7 148 [.int .u8 (((AH (r.take (min 2 r.length))).getD (0, 0)).1.toNat : Int), .int .i64 ((((AH (r.take (min 2 r.length))).getD (0, 0)).2 : Nat) : Int)])) w37 := M.putB 0 rfl hbw37 hfw37
        exact ⟨fun _ => M.drop 2, oc 12 13 rfl rfl (M.drop 2) (BN (by kernel_rfl) (kr7 g7 g56 _ _ M ⟨rfl, rfl, rfl, rfl, trivial⟩))⟩
      ·refine EM (some 7) rfl (AA rfl) rfl rfl (fun ρ hρ => C6 148 rfl _ [.int .u8 0, .int .i64 0] BO rfl) ?_
       rintro _ w38 ⟨g7, rfl, hg7, hq7, hb7, hfw38⟩
       refine ⟨fun _ => M.step hfw38, ?_⟩
       have M := M.push hfw38 _ hb7 (DX hg7 hq7)
       replace M : Mem w (fun k => k = gx) (As.blk g7 148 [.int .u8 0, .int .i64 0] :: _) w38 := M
       refine BY 0 (some 56) (by kernel_rfl) rfl (AA rfl) rfl rfl (AE rfl rfl call129) (HJ _) ?_
       rintro _ w39 ⟨g56, rfl, hMw39, hgw39, hfw39⟩
       refine ⟨_, rfl, fun _ => (M.drop 1).step hfw39, ?_⟩
       have M := M.push hfw39 (As.mp g56 D2) hMw39 (L9 hgw39 hMw39.lt)
       refine CY 6 (by kernel_rfl) rfl (AA rfl) rfl rfl (DH rfl rfl rfl underlying150 underlying9 BO (M.mp 0 rfl) (DY _) (GE _)) (M.drop 2) (oc 7 13 rfl rfl (M.drop 2) (oc 8 13 rfl rfl (M.drop 2) (oc 9 13 rfl rfl (M.drop 2) (BG 11 none (by kernel_rfl) rfl (AA rfl) rfl rfl (fun ρ hρ => BW 148 _ _ rfl g7 0 148 _ ([.int .u8 (((AH (r.take (min 2 r.length))).getD (0, 0)).1.toNat : Int), .int .i64 ((((AH (r.take (min 2 r.length))).getD (0, 0)).2 : Nat) : Int)]) (hρ _ _ rfl) (hρ _ _ rfl) (M.blk 1 rfl) D1 (AI rfl) (AY rfl)) ?_))))
       rintro _ w40 ⟨rfl, hbw40, hfw40⟩
       replace M : Mem w (fun k => k = gx) (List.set _ 1 (As.blk g7 148 [.int .u8 (((AH (r.take (min 2 r.length))).getD (0, 0)).1.toNat : Int), .int .i64 ((((AH (r.take (min 2 r.length))).getD (0, 0)).2 : Nat) : Int)])) w40 := M.putB 1 rfl hbw40 hfw40
       exact ⟨fun _ => M.drop 2, oc 12 13 rfl rfl (M.drop 2) (BN (by kernel_rfl) (kr7 g7 g56 _ _ (M.pk [1, 0, 2]) ⟨rfl, rfl, rfl, rfl, trivial⟩))⟩
 refine AM (d := 42) (b := (decide (r = []))) rfl (fun h42 => ?_) (fun h42 => ?_)
 ·iterate 5 refine yo rfl ?_
  exact yb rfl (k42 _ _ M ⟨rfl, rfl, (by rw [h42]; rfl), trivial⟩)
 ·exact yd rfl (yp rfl) (yd rfl (yp rfl) (yd rfl (yp rfl) (ym rfl rfl (M.cell 0 rfl rfl) (yd rfl (CX rfl rfl rfl) (yb rfl (k42 _ _ M ⟨rfl, rfl, (by rw [h42]; rfl), trivial⟩))))))
end
section
def Xn.AtL (t : TypeId) (w : World) : Xn → Option Addr → List Nat → Prop
 | .un _ a, A, F => ∃ g B F', A = some ⟨g, 0, none⟩ ∧ F = g :: F' ∧ Blk w g t (a.cells B) ∧ Xn.AtL t w a B F'
 | .bin _ a b, A, F => ∃ g B C F' F'', A = some ⟨g, 0, none⟩ ∧ F = g :: (F' ++ F'') ∧ Blk w g t (a.cells B ++ b.cells C) ∧ Xn.AtL t w a B F' ∧ Xn.AtL t w b C F''
 | _, A, F => A = none ∧ F = []
theorem Xn.AtL.keep {t : TypeId} {w w' : World} : ∀ {n : Xn} {A : Option Addr} {F : List Nat}, (∀ g ∈ F, g < w.heap.size → w'.heap[g]? = w.heap[g]?) → n.AtL t w A F → n.AtL t w' A F
 | .zero, _, _, _, h => h
 | .lit _, _, _, _, h => h
 | .var _, _, _, _, h => h
 | .un _ _, _, _, hk, ⟨g, B, F', h1, h2, h3, h4⟩ => by
  subst h2
  exact ⟨g, B, F', h1, rfl, (hk g (by simp) h3.lt).trans h3, h4.keep (fun k hk' => hk k (by simp [hk']))⟩
 | .bin _ _ _, _, _, hk, ⟨g, B, C, F', F'', h1, h2, h3, h4, h5⟩ => by
  subst h2
  exact ⟨g, B, C, F', F'', h1, rfl, (hk g (by simp) h3.lt).trans h3, h4.keep (fun k hk' => hk k (by simp [hk'])), h5.keep (fun k hk' => hk k (by simp [hk']))⟩
theorem Xn.AtL.leaf {t : TypeId} {w : World} {n : Xn} (h : n.leaf = true) : n.AtL t w none [] := by
 cases n <;> first | exact ⟨rfl, rfl⟩ | cases h
def As.xn (t : TypeId) (n : Xn) (A : Option Addr) (F : List Nat) : As := ⟨F, fun w => n.AtL t w A F, fun h hb => hb.keep h⟩
section
variable {w0 w w' : World} {S : Nat → Prop} {L : List As}
theorem Mem.putPush (M : Mem w0 S L w) (i : Nat) {g ty : Nat} {cs cs' : List Value} (hi : L[i]? = some (As.blk g ty cs)) (hb : Blk w' g ty cs') (hf : Fr (fun k => k = g) w w') (a : As) (hok : a.ok w') (hfp : ∀ k ∈ a.fp, w.heap.size ≤ k ∧ k < w'.heap.size) : Mem w0 S (a :: L.set i (As.blk g ty cs')) w' := by
 have M' := M.putB i hi hb hf
 have old : ∀ (j : Nat) (b : As), (L.set i (As.blk g ty cs'))[j]? = some b → ∀ k ∈ b.fp, k < w.heap.size := by
  intro j b hj k hk
  by_cases hji : j = i
  ·subst hji
   rw [List.getElem?_set_self (List.getElem?_eq_some_iff.1 hi).1] at hj
   obtain rfl := Option.some.inj hj
   exact (M.lt j _ hi k (by simpa [As.blk] using hk)).1
  ·rw [List.getElem?_set_ne (Ne.symm hji)] at hj
   exact (M.lt j b hj k hk).1
 refine ⟨M'.fr, ?_, ?_, ?_⟩
 ·intro j b hj
  cases j with
  | zero => simp only [List.getElem?_cons_zero, Option.some.injEq] at hj; subst hj; exact hok
  | succ j => exact M'.ok j b (by simpa using hj)
 ·intro j b hj k hk
  cases j with
  | zero =>
   simp only [List.getElem?_cons_zero, Option.some.injEq] at hj; subst hj
   obtain ⟨h1, h2⟩ := hfp k hk
   exact ⟨h2, .inl (Nat.le_trans M.fr.size h1)⟩
  | succ j => exact M'.lt j b (by simpa using hj) k hk
 ·intro j l b c hj hl hne k hk hk'
  cases j with
  | zero =>
   cases l with
   | zero => exact hne rfl
   | succ l =>
    simp only [List.getElem?_cons_zero, Option.some.injEq] at hj; subst hj
    have h1 := (hfp k hk).1
    have h2 := old l c (by simpa using hl) k hk'
    omega
  | succ j =>
   cases l with
   | zero =>
    simp only [List.getElem?_cons_zero, Option.some.injEq] at hl; subst hl
    have h1 := (hfp k hk').1
    have h2 := old j b (by simpa using hj) k hk
    omega
   | succ l => exact M'.apart j l b c (by simpa using hj) (by simpa using hl) (by omega) k hk hk'
theorem Mem.newOf {gx ty : Nat} {cs : List Value} (M : Mem w0 (fun k => k = gx) L w) (i j : Nat) {a : As} (hi : L[i]? = some a) (hj : L[j]? = some (As.blk gx ty cs)) (hne : i ≠ j) : ∀ g ∈ a.fp, w0.heap.size ≤ g ∧ g < w.heap.size := fun g hg => by
 obtain ⟨h1, h2⟩ := M.lt i a hi g hg
 refine ⟨?_, h1⟩
 rcases h2 with h2 | h2
 ·exact h2
 ·exact absurd (by rw [h2]; simp [As.blk] : g ∈ (As.blk gx ty cs).fp) (M.apart i j a _ hi hj hne g hg)
theorem Mem.new0 (M : Mem w0 AD L w) (i : Nat) {a : As} (hi : L[i]? = some a) : ∀ g ∈ a.fp, w0.heap.size ≤ g ∧ g < w.heap.size := fun g hg => by
 obtain ⟨h1, h2⟩ := M.lt i a hi g hg
 exact ⟨h2.elim id (fun hh => hh.elim), h1⟩
theorem Mem.un {t : TypeId} {gx ty g : Nat} {cs : List Value} {op : UInt8} {a : Xn} {B : Option Addr} {F : List Nat} (M : Mem w0 (fun k => k = gx) (As.blk g t (a.cells B) :: As.xn t a B F :: As.blk gx ty cs :: L) w) : (Xn.un op a).AtL t w (some ⟨g, 0, none⟩) (g :: F) ∧ ∀ k ∈ g :: F, w0.heap.size ≤ k ∧ k < w.heap.size := by
 refine ⟨⟨g, B, F, rfl, rfl, M.blk 0 rfl, M.ok 1 _ rfl⟩, fun k hk => ?_⟩
 rcases List.mem_cons.1 hk with rfl | hk
 ·exact M.newOf 0 2 rfl rfl (by decide) k (by simp [As.blk])
 ·exact M.newOf 1 2 rfl rfl (by decide) k hk
end
section
variable (s : List UInt8) (fr : Nat → Lx → Xn × Lx)
def IW (op : UInt8) (line : Nat) (x : Lx) : Xn × Lx := (.un op (fr line (B6 s x)).1, (fr line (B6 s x)).2)
def MQ (x : Lx) : Xn × Lx := (x.nd, B6 s (if (x.nd.op.toNat : Int) = 0 then x.fail 4 x.tat else x))
def EQ (x : Lx) : Xn × Lx :=
 ((fr 1 (B6 s x)).1, B6 s (if ¬ (fr 1 (B6 s x)).2.say = [41] then (fr 1 (B6 s x)).2.fail 4 (fr 1 (B6 s x)).2.tat else (fr 1 (B6 s x)).2))
def D6 (line : Nat) (x : Lx) : Xn × Lx :=
 if x.say = [110, 111, 116] ∧ line ≤ 3 then IW s fr 3 3 x
 else if x.say = [45] then IW s fr 4 7 x
 else if x.say = [40] then EQ s fr x
 else MQ s x
def QI (k : List UInt8) : Nat := ((AH k).getD (0, 0)).2
def KW (x : Lx) : Xn × Lx :=
 let r := fr (QI x.say + 1) (B6 s x)
 (r.1, if QI x.say = 4 ∧ QI r.2.say = 4 then r.2.fail 4 r.2.tat else r.2)
def FM : Nat → Nat → Xn → Lx → Xn × Lx
 | 0, _, n, x => (n, x)
 | k + 1, line, n, x =>
  if ¬ x.e = 0 then (n, x) else
  if (AH x.say).isNone = true ∨ QI x.say < line then (n, x) else
  FM k line (.bin ((AH x.say).getD (0, 0)).1 n (KW s fr x).1) (KW s fr x).2
end
def CG (s : List UInt8) : Nat → Nat → Lx → Xn × Lx
 | 0, _, x => (.zero, x)
 | f + 1, line, x => if ¬ x.e = 0 then (.zero, x) else
  FM s (CG s f) f line (D6 s (CG s f) line x).1 (D6 s (CG s f) line x).2
def CQ (s : List UInt8) : Xn × Nat × Int :=
 if 256 < s.length then (.zero, 0, 3) else
 let r := CG s 258 1 (B6 s lx0)
 let y := if r.2.fin = false then r.2.fail 4 r.2.tat else r.2
 if y.e = 0 then (r.1, 0, 0) else (.zero, y.wh, y.e)
structure LxI (s : List UInt8) (x : Lx) : Prop where
 at_ : x.at_ ≤ s.length
 tat : x.tat ≤ x.at_
 adv : ¬ x.say = [] → x.tat < x.at_
 leaf : x.nd.leaf = true
def lxM (s : List UInt8) (x : Lx) : Nat := if x.e = 0 then s.length + 1 - x.tat else 0
theorem DS (x : Lx) (e : Int) (p : Nat) : (x.fail e p).tat = x.tat := by unfold Lx.fail; split <;> rfl
theorem DM (x : Lx) (e : Int) (p : Nat) : (x.fail e p).nd = x.nd := by unfold Lx.fail; split <;> rfl
theorem HQ (x : Lx) (e : Int) (p : Nat) : (x.fail e p).say = x.say := by unfold Lx.fail; split <;> rfl
theorem iP {x : Lx} {e : Int} {p : Nat} (h : ¬ e = 0) : ¬ (x.fail e p).e = 0 := by unfold Lx.fail; split <;> simp_all
theorem LxI.fail {s : List UInt8} {x : Lx} (h : LxI s x) (e : Int) (p : Nat) : LxI s (x.fail e p) := ⟨by rw [F9]; exact h.at_, by rw [F9, DS]; exact h.tat, by rw [F9, DS, HQ]; exact h.adv, by rw [DM]; exact h.leaf⟩
theorem NX {s : List UInt8} {x : Lx} {e : Int} {p : Nat} (h : ¬ e = 0) : lxM s (x.fail e p) = 0 := by unfold lxM; rw [if_neg (iP h)]
theorem mL (t : List UInt8) (x : Lx) : (GL t x).tat = x.tat ∧ (GL t x).say = x.say ∧ (x.nd.leaf = true → (GL t x).nd.leaf = true) := by
 unfold GL
 split
 ·exact ⟨DS _ _ _, HQ _ _ _, fun h => by rw [DM]; exact h⟩
 ·split
  ·exact ⟨rfl, rfl, fun _ => rfl⟩
  ·exact ⟨DS _ _ _, HQ _ _ _, fun _ => rfl⟩
theorem fT (t : List UInt8) (x : Lx) : (E7 t x).tat = x.tat ∧ (x.nd.leaf = true → (E7 t x).nd.leaf = true) := by
 unfold E7
 repeat' split
 all_goals first
  | exact ⟨rfl, fun _ => rfl⟩
  | exact ⟨rfl, fun h => h⟩
  | exact ⟨DS _ _ _, fun h => by rw [DM]; exact h⟩
theorem gC (l : List UInt8) (x : Lx) : (HI l x).tat = x.tat ∧ (HI l x).say = x.say ∧ (x.nd.leaf = true → (HI l x).nd.leaf = true) ∧ x.at_ ≤ (HI l x).at_ ∧ (HI l x).at_ ≤ x.at_ + l.length := by
 unfold HI
 split
 ·split
  ·exact ⟨rfl, rfl, fun _ => rfl, Nat.le_add_right _ _, by simp only; omega⟩
  ·exact ⟨DS _ _ _, HQ _ _ _, fun h => by rw [DM]; exact h, by rw [F9]; exact Nat.le_refl _, by rw [F9]; omega⟩
 ·exact ⟨DS _ _ _, HQ _ _ _, fun h => by rw [DM]; exact h, by rw [F9]; exact Nat.le_refl _, by rw [F9]; omega⟩
theorem iW {b : UInt8} (h : DP b = true) : b.toNat < 128 := by
 have h1 := odt (C9 h).2
 have h2 : b.toNat ≤ (b ||| 32).toNat := by rw [UInt8.toNat_or]; exact Nat.left_le_or
 omega
theorem iX {b : UInt8} (h : DP b = true) : CT b = true := by unfold CT; rw [h]; rfl
theorem dS {s r : List UInt8} {x : Lx} (hr : r.length ≤ s.length) : LxI s (HM s r x) ∧ (HM s r x).tat = s.length - r.length := by
 by_cases h0 : r = [] ∨ ¬ x.e = 0
 ·rw [OO h0]
  exact ⟨⟨Nat.sub_le _ _, Nat.le_refl _, fun h => absurd rfl h, rfl⟩, rfl⟩
 ·have h : ¬ r = [] ∧ x.e = 0 := ⟨fun z => h0 (.inl z), Classical.byContradiction fun z => h0 (.inr z)⟩
  have hn : 0 < r.length := List.length_pos_iff.2 h.1
  obtain ⟨b, hb⟩ := DA (l := r) (i := 0) hn
  by_cases h1 : CD b = true
  ·rw [UP h hb h1]
   have hsp := NN CD r
   obtain ⟨e1, e2, e3⟩ := mL (r.take (spanP CD r)) ⟨s.length - r.length, .zero, [], s.length - r.length, false, x.e, x.wh⟩
   have e4 := NT (r.take (spanP CD r)) ⟨s.length - r.length, .zero, [], s.length - r.length, false, x.e, x.wh⟩
   simp only at e1 e2 e4
   refine ⟨⟨?_, ?_, ?_, e3 rfl⟩, e1⟩
   ·simp only [e4]; omega
   ·simp only [e4, e1]; omega
   ·simp only [e2]; exact fun h => absurd trivial h
  ·have h1 := Bool.eq_false_iff.2 h1
   by_cases h2 : DP b = true
   ·rw [S1 h hb h1 h2]
    have hsp := NN CT r
    have hpo := UF (is := CT) hb (iW h2) (iX h2)
    obtain ⟨e1, e3⟩ := fT (r.take (spanP CT r)) ⟨s.length - r.length, .zero, [], s.length - r.length, false, x.e, x.wh⟩
    have e4 := KT (r.take (spanP CT r)) ⟨s.length - r.length, .zero, [], s.length - r.length, false, x.e, x.wh⟩
    simp only at e1 e4
    refine ⟨⟨?_, ?_, ?_, e3 rfl⟩, e1⟩
    ·simp only [e4]; omega
    ·simp only [e4, e1]; omega
    ·simp only [e4, e1]; omega
   ·have h2 := Bool.eq_false_iff.2 h2
    by_cases h3 : (b.toNat : Int) = 39
    ·rw [S2 h hb h1 h2 h3]
     obtain ⟨e1, e2, e3, e4, e5⟩ := gC r ⟨s.length - r.length, .zero, [], s.length - r.length, false, x.e, x.wh⟩
     simp only at e1 e2 e4 e5
     refine ⟨⟨by omega, by omega, ?_, e3 rfl⟩, e1⟩
     rw [e2]; exact fun h => absurd rfl h
    ·have hsg := dD h.1
     have hs1 : 0 < sgnN r := by unfold sgnN; split <;> omega
     by_cases h4 : (((!(AH (r.take (sgnN r))).isSome) && (!decide ((r.take (sgnN r)) = [40]))) && (!decide ((r.take (sgnN r)) = [41]))) = true
     ·rw [UQ h hb h1 h2 h3 h4]
      refine ⟨⟨?_, ?_, ?_, ?_⟩, ?_⟩
      ·simp only [F9]; omega
      ·simp only [F9, DS]; omega
      ·simp only [F9, DS]; omega
      ·simp only [DM]; rfl
      ·simp only [DS]
     ·rw [S3 h hb h1 h2 h3 (Bool.eq_false_iff.2 h4)]
      exact ⟨⟨by simp only; omega, by simp only; omega, fun _ => by simp only; omega, rfl⟩, rfl⟩
theorem DO {s : List UInt8} {x : Lx} : LxI s (B6 s x) := (dS (JZ _ _)).1
theorem iK {s : List UInt8} {x : Lx} (h : x.at_ ≤ s.length) : x.at_ ≤ (B6 s x).tat := by
 have h1 : (B6 s x).tat = _ := (dS (JZ s x.at_)).2
 have h2 : (N7 (s.drop x.at_)).length ≤ s.length - x.at_ := Nat.le_trans (JL _ _) (by rw [List.length_drop]; exact Nat.le_refl _)
 have h3 := JZ s x.at_
 omega
theorem YG {s : List UInt8} {x : Lx} (h : LxI s x) : lxM s (B6 s x) ≤ s.length + 1 - x.at_ := by
 have := iK h.at_
 unfold lxM
 split <;> omega
theorem JU {s : List UInt8} {x : Lx} (h : LxI s x) (he : x.e = 0) (hs : ¬ x.say = []) : lxM s (B6 s x) < lxM s x := by
 have h1 := YG h
 have h2 := h.adv hs
 have h3 := h.at_
 have h4 : lxM s x = s.length + 1 - x.tat := by unfold lxM; rw [if_pos he]
 omega
theorem wB {s : List UInt8} {x : Lx} (h : LxI s x) (he : x.e = 0) : lxM s (B6 s x) ≤ lxM s x := by
 have h1 := YG h
 have h2 := h.tat
 have h4 : lxM s x = s.length + 1 - x.tat := by unfold lxM; rw [if_pos he]
 omega
theorem s6 {s : List UInt8} {x : Lx} (h : ¬ x.e = 0) : ¬ (B6 s x).e = 0 := by
 unfold B6
 rw [OO (.inr h)]
 exact h
theorem LZ {s : List UInt8} {x : Lx} (h : LxI s x) : lxM s (B6 s x) ≤ lxM s x := by
 by_cases he : x.e = 0
 ·exact wB h he
 ·unfold lxM
  rw [if_neg he, if_neg (s6 he)]
  exact Nat.le_refl _
structure FrI (s : List UInt8) (f : Nat) (fr : Nat → Lx → Xn × Lx) : Prop where
 I : ∀ (line : Nat) (x : Lx), LxI s x → lxM s x ≤ f → LxI s (fr line x).2
 m : ∀ (line : Nat) (x : Lx), LxI s x → lxM s x ≤ f → lxM s (fr line x).2 ≤ lxM s x
section
variable {s : List UInt8} {f : Nat} {fr : Nat → Lx → Xn × Lx}
theorem R3 (h : FrI s f fr) {x : Lx} (hx : LxI s x) (he : x.e = 0) (hs : ¬ x.say = []) (hm : lxM s x ≤ f + 1) (op : UInt8) (line : Nat) : LxI s (IW s fr op line x).2 ∧ lxM s (IW s fr op line x).2 ≤ lxM s x := by
 have h1 := JU hx he hs
 exact ⟨h.I _ _ DO (by omega), Nat.le_trans (h.m _ _ DO (by omega)) (by omega)⟩
theorem pN {x : Lx} (hx : LxI s x) : LxI s (MQ s x).2 ∧ lxM s (MQ s x).2 ≤ lxM s x := by
 refine ⟨DO, ?_⟩
 unfold MQ
 split
 ·exact Nat.le_trans (LZ (hx.fail 4 x.tat)) (by rw [NX (by decide)]; exact Nat.zero_le _)
 ·exact LZ hx
theorem TF (h : FrI s f fr) {x : Lx} (hx : LxI s x) (he : x.e = 0) (hs : ¬ x.say = []) (hm : lxM s x ≤ f + 1) : LxI s (EQ s fr x).2 ∧ lxM s (EQ s fr x).2 ≤ lxM s x := by
 have h1 := JU hx he hs
 have h2 := h.I 1 _ (DO (s := s) (x := x)) (by omega)
 have h3 := h.m 1 _ (DO (s := s) (x := x)) (by omega)
 refine ⟨DO, ?_⟩
 unfold EQ
 simp only
 split
 ·exact Nat.le_trans (LZ (h2.fail 4 _)) (by rw [NX (by decide)]; exact Nat.zero_le _)
 ·exact Nat.le_trans (LZ h2) (by omega)
theorem WP (h : FrI s f fr) {x : Lx} (hx : LxI s x) (he : x.e = 0) (hm : lxM s x ≤ f + 1) (line : Nat) : LxI s (D6 s fr line x).2 ∧ lxM s (D6 s fr line x).2 ≤ lxM s x := by
 unfold D6
 split
 ·rename_i h1; exact R3 h hx he (by rw [h1.1]; decide) hm _ _
 ·split
  ·rename_i h1; exact R3 h hx he (by rw [h1]; decide) hm _ _
  ·split
   ·rename_i h1; exact TF h hx he (by rw [h1]; decide) hm
   ·exact pN hx
theorem XR {x : Lx} (h : ¬ (AH x.say).isNone = true) : ¬ x.say = [] := fun e => h (by rw [e]; rfl)
theorem vD (h : FrI s f fr) {x : Lx} (hx : LxI s x) (he : x.e = 0) (hs : ¬ x.say = []) (hm : lxM s x ≤ f + 1) : LxI s (KW s fr x).2 ∧ lxM s (KW s fr x).2 < lxM s x := by
 have h1 := JU hx he hs
 have h2 := h.I (QI x.say + 1) _ (DO (s := s) (x := x)) (by omega)
 have h3 := h.m (QI x.say + 1) _ (DO (s := s) (x := x)) (by omega)
 unfold KW
 simp only
 split
 ·exact ⟨h2.fail _ _, by rw [NX (by decide)]; omega⟩
 ·exact ⟨h2, by omega⟩
theorem mY (h : FrI s f fr) (line : Nat) : ∀ (k : Nat) (n : Xn) (x : Lx), LxI s x → lxM s x ≤ f + 1 → LxI s (FM s fr k line n x).2 ∧ lxM s (FM s fr k line n x).2 ≤ lxM s x
 | 0, _, _, hx, _ => ⟨hx, Nat.le_refl _⟩
 | k + 1, n, x, hx, hm => by
  unfold FM
  split
  ·exact ⟨hx, Nat.le_refl _⟩
  ·rename_i he
   split
   ·exact ⟨hx, Nat.le_refl _⟩
   ·rename_i hs
    have he : x.e = 0 := Classical.byContradiction he
    obtain ⟨h1, h2⟩ := vD h hx he (XR fun z => hs (.inl z)) hm
    obtain ⟨h3, h4⟩ := mY h line k (.bin ((AH x.say).getD (0, 0)).1 n (KW s fr x).1) _ h1 (by omega)
    exact ⟨h3, by omega⟩
end
theorem WO (s : List UInt8) : ∀ f : Nat, FrI s f (CG s (f + 1))
 | 0 => by
  have key : ∀ (line : Nat) (x : Lx), LxI s x → lxM s x ≤ 0 → (CG s 1 line x).2 = x := fun line x hx hm => by
   have he : ¬ x.e = 0 := fun he => by
    unfold lxM at hm
    rw [if_pos he] at hm
    have := hx.at_; have := hx.tat
    omega
   unfold CG
   rw [if_pos he]
  exact ⟨fun l x hx hm => by rw [key l x hx hm]; exact hx, fun l x hx hm => by rw [key l x hx hm]; exact Nat.le_refl _⟩
 | f + 1 => by
  have ih := WO s f
  have key : ∀ (line : Nat) (x : Lx), LxI s x → lxM s x ≤ f + 1 → LxI s (CG s (f + 1 + 1) line x).2 ∧ lxM s (CG s (f + 1 + 1) line x).2 ≤ lxM s x := fun line x hx hm => by
   unfold CG
   split
   ·exact ⟨hx, Nat.le_refl _⟩
   ·rename_i he
    have he : x.e = 0 := Classical.byContradiction he
    obtain ⟨h1, h2⟩ := WP ih hx he hm line
    obtain ⟨h3, h4⟩ := mY ih line (f + 1) (D6 s (CG s (f + 1)) line x).1 _ h1 (by omega)
    exact ⟨h3, by omega⟩
  exact ⟨fun l x hx hm => (key l x hx hm).1, fun l x hx hm => (key l x hx hm).2⟩
theorem rH (k : List UInt8) : QI k ≤ 6 := by
 have : ∀ (l : List (List UInt8 × (UInt8 × Nat))), (∀ q ∈ l, q.2.2 ≤ 6) → ((XN l k).getD (0, 0)).2 ≤ 6 := by
  intro l
  induction l with
  | nil => intro _; exact Nat.zero_le _
  | cons a l ih =>
   intro h
   obtain ⟨a1, a2⟩ := a
   unfold XN
   split
   ·exact h (a1, a2) (by simp)
   ·exact ih fun q hq => h q (by simp [hq])
 exact this signTab (by decide)
end
def VM (s : List UInt8) (gx : Nat) (w : World) (r : Xn × Lx) : Ending → World → Prop := fun e w' => ∃ A F, e = .returned (.agg (r.1.cells A).toArray) ∧ r.1.AtL 129 w' A F ∧ (∀ k ∈ F, w.heap.size ≤ k ∧ k < w'.heap.size) ∧ Blk w' gx 142 (Lx.cells s r.2) ∧ Fr (fun k => k = gx) w w'
structure PE (s : List UInt8) (w : World) (gx c5 c6 c7 c8 c9 c10 : Nat) : Prop where
 b5 : Blk w c5 138 [.pointer (some ⟨gx, 0, none⟩)]
 b6 : Blk w c6 143 [.func (.func 128) #[] #[.pointer (some ⟨c5, 0, none⟩), .pointer (some ⟨c10, 0, none⟩), .pointer (some ⟨c6, 0, none⟩)]]
 b7 : Blk w c7 144 [.func (.func 123) #[] #[.pointer (some ⟨c5, 0, none⟩), .pointer (some ⟨c6, 0, none⟩)]]
 b8 : Blk w c8 146 [.func (.func 124) #[] #[.pointer (some ⟨c5, 0, none⟩)]]
 b9 : Blk w c9 146 [.func (.func 126) #[] #[.pointer (some ⟨c5, 0, none⟩), .pointer (some ⟨c6, 0, none⟩)]]
 b10 : Blk w c10 143 [.func (.func 127) #[] #[.pointer (some ⟨c5, 0, none⟩), .pointer (some ⟨c7, 0, none⟩), .pointer (some ⟨c9, 0, none⟩), .pointer (some ⟨c8, 0, none⟩)]]
 n : ¬ c5 = gx ∧ ¬ c6 = gx ∧ ¬ c7 = gx ∧ ¬ c8 = gx ∧ ¬ c9 = gx ∧ ¬ c10 = gx
 g : nGlob ≤ gx
 len : s.length ≤ 256
theorem PE.fr {s : List UInt8} {w w' : World} {gx c5 c6 c7 c8 c9 c10 : Nat} (h : PE s w gx c5 c6 c7 c8 c9 c10) (hf : Fr (fun k => k = gx) w w') : PE s w' gx c5 c6 c7 c8 c9 c10 :=
 ⟨h.b5.fr hf h.n.1, h.b6.fr hf h.n.2.1, h.b7.fr hf h.n.2.2.1, h.b8.fr hf h.n.2.2.2.1, h.b9.fr hf h.n.2.2.2.2.1, h.b10.fr hf h.n.2.2.2.2.2, h.n, h.g, h.len⟩
structure FromOK (s : List UInt8) (gx c5 c6 c7 c8 c9 c10 : Nat) (f : Nat) (fr : Nat → Lx → Xn × Lx) : Prop where
 I : FrI s f fr
 call : ∀ (line : Nat) (x : Lx) (w : World), line ≤ 7 → Blk w gx 142 (Lx.cells s x) → LxI s x → lxM s x ≤ f → PE s w gx c5 c6 c7 c8 c9 c10 → Lay0 w →
  Calls prog 128 #[.int .i64 (line : Int), .pointer (some ⟨c5, 0, none⟩), .pointer (some ⟨c10, 0, none⟩), .pointer (some ⟨c6, 0, none⟩)] w (VM s gx w (fr line x))
theorem K0 (a0 : Int) (A3 : Option Addr) (n3 c3 : Nat) : prog.built 129 [(0, .int .u8 a0), (3, .slice A3 n3 c3)] = some #[.int .u8 a0, .int .u8 0, .int .i64 0, .bool false, str [], str [], .slice A3 n3 c3] := by kernel_rfl
theorem MN : (prog.info? 129).map (fun i => (i.zero, i.size)) = some (some (.agg #[.int .u8 0, .int .u8 0, .int .i64 0, .bool false, str [], str [], .slice none 0 0]), 7) := by kernel_rfl
theorem D0 : (prog.info? 129).map (·.zero) = some (some (.agg #[.int .u8 0, .int .u8 0, .int .i64 0, .bool false, str [], str [], .slice none 0 0])) := by kernel_rfl
theorem UL {s : List UInt8} {gx c5 c6 c7 c8 c9 c10 : Nat} {f : Nat} {fr : Nat → Lx → Xn × Lx} (hF : FromOK s gx c5 c6 c7 c8 c9 c10 f fr) (op : UInt8) (line : Nat) (hl : line ≤ 7) (x : Lx) (w : World) (hb : Blk w gx 142 (Lx.cells s x)) (hx : LxI s x) (he : x.e = 0) (hs : ¬ x.say = []) (hm : lxM s x ≤ f + 1) (hE : PE s w gx c5 c6 c7 c8 c9 c10) (hY : Lay0 w) :
 Calls prog 123 #[.int .u8 (op.toNat : Int), .int .i64 (line : Int), pg c5, pg c6] w (VM s gx w (IW s fr op line x)) := by
 have hGx : ∀ k, k = gx → nGlob ≤ k := fun _ e => e ▸ hE.g
 have hst := JU hx he hs
 refine AJ (vs := [_, _, _, _]) func123 rfl ntmps123 rfl ?_
 have M : Mem w (fun k => k = gx) [As.blk gx 142 (Lx.cells s x)] w := Mem.one hb
 refine A9 (A0 (BI M (AA rfl) rfl rfl 129 rfl [.int .u8 0, .int .u8 0, .int .i64 0, .bool false, str [], str [], .slice none 0 0] D0 rfl fun g6 w1 hg6 M => A4 (A5 (A9 (A0 (yl rfl rfl (Blk.c ((hE.fr M.fr).b5) 0 rfl) (cl 8 rfl (AE rfl rfl call122) (G5 s x _ _ (M.blk 1 rfl) hx.at_ hE.len (hY.fr M.fr hGx) hE.g) ?_)))))))
 rintro _ w2 ⟨rfl, hbw2, hfw2⟩
 have M := M.putB 1 rfl hbw2 hfw2
 refine ⟨_, rfl, A4 (A5 (A9 (A0 (yb rfl (yl rfl rfl (Blk.c ((hE.fr M.fr).b6) 0 rfl) (yb rfl (cl 12 rfl (BK rfl rfl rfl call128) (hF.call line (B6 s x) _ (by omega) (M.blk 1 rfl) DO (by omega) (hE.fr M.fr) (hY.fr M.fr hGx)) ?_)))))))⟩
 rintro _ w3 ⟨A12, F12, rfl, hat12, hnw12, hbw3, hfw3⟩
 have M := M.putPush 1 rfl hbw3 hfw3 (As.xn 129 (fr line (B6 s x)).1 A12 F12) hat12 hnw12
 have hI12 := hF.I.I line (B6 s x) DO (by omega)
 refine ⟨_, rfl, ?_⟩
 have hm12 := hF.I.m line (B6 s x) DO (by omega)
 refine DC M (AA rfl) rfl rfl [.agg (Xn.cells ((fr line (B6 s x)).1) A12).toArray] (Xn.cells ((fr line (B6 s x)).1) A12) rfl rfl rfl rfl underlying127 MN rfl rfl (IK rfl) rfl fun g13 w4 hg13 M => ya rfl (BU (parts := [(0, _), (3, _)]) rfl rfl (K0 _ _ _ _)) (B8 (cs' := [.int .u8 (op.toNat : Int), .int .u8 0, .int .i64 0, .bool false, str [], str [], .slice (some ⟨g13, 0, none⟩) 1 1]) M 2 (AA rfl) rfl rfl rfl rfl rfl AR rfl (AI rfl) (AY rfl) rfl fun w5 M => A4 (A5 (AF (E8 rfl rfl (M.rdBlk 2 rfl rfl) underlying129 rfl AR ?_))))
 obtain ⟨ha, hn⟩ := Mem.un (op := op) (M.pk [0, 1, 3])
 exact ⟨_, _, rfl, ha, hn, M.blk 3 rfl, M.fr⟩
theorem mG {s : List UInt8} {gx c5 c6 c7 c8 c9 c10 : Nat}  (x : Lx) (w : World) (hb : Blk w gx 142 (Lx.cells s x)) (hx : LxI s x) (hE : PE s w gx c5 c6 c7 c8 c9 c10) (hY : Lay0 w) :
 Calls prog 124 #[pg c5] w (VM s gx w (MQ s x)) := by
 have hGx : ∀ k, k = gx → nGlob ≤ k := fun _ e => e ▸ hE.g
 have hc : x.nd.cells none = [.int .u8 (x.nd.op.toNat : Int), .int .u8 (x.nd.vl.kind.toNat : Int), .int .i64 x.nd.vl.int, .bool x.nd.vl.bool, str x.nd.vl.text, str x.nd.nm, .slice none 0 0] := by unfold Xn.cells; rw [Xn.nk_leaf hx.leaf]
 refine AJ (vs := [_]) func124 rfl ntmps124 rfl ?_
 have M : Mem w (fun k => k = gx) [As.blk gx 142 (Lx.cells s x)] w := Mem.one hb
 refine A9 (A0 (BI M (AA rfl) rfl rfl 129 rfl [.int .u8 0, .int .u8 0, .int .i64 0, .bool false, str [], str [], .slice none 0 0] D0 rfl fun g1 w1 hg1 M => A4 (A5 (A9 (A0 (yl rfl rfl (Blk.c ((hE.fr M.fr).b5) 0 rfl) (yb rfl (yb rfl (yb rfl (ya rfl (AU (xs := [.int .u8 (x.nd.op.toNat : Int), .int .u8 (x.nd.vl.kind.toNat : Int), .int .i64 x.nd.vl.int, .bool x.nd.vl.bool, str x.nd.vl.text, str x.nd.nm, .slice none 0 0]) rfl rfl (II (M.blk 1 rfl) 2 7 rfl rfl) underlying129 rfl AR) (BI M (AA rfl) rfl rfl 129 rfl [.int .u8 0, .int .u8 0, .int .i64 0, .bool false, str [], str [], .slice none 0 0] D0 rfl fun g2 w2 hg2 M => B8 (cs' := [.int .u8 (x.nd.op.toNat : Int), .int .u8 (x.nd.vl.kind.toNat : Int), .int .i64 x.nd.vl.int, .bool x.nd.vl.bool, str x.nd.vl.text, str x.nd.nm, .slice none 0 0]) M 0 (AA rfl) rfl rfl rfl rfl rfl AR rfl (AI rfl) (AY rfl) rfl ?_)))))))))))
 intro w3 M
 refine A4 (A5 (A9 (A9 (A0 (yb rfl (yl rfl rfl (M.cell 0 rfl rfl) (ya rfl (BB rfl rfl rfl) (A4 (A5 (AT (b := (decide ((x.nd.op.toNat : Int) = (0 : Int)))) rfl (fun h10 => ?_) (fun h10 => ?_)))))))))))
 ·have h10p := (odt h10)
  refine GC 6 DV (by kernel_rfl) ?_
  have M := M.drew
  refine sd rfl rfl (Blk.c ((hE.fr M.fr).b5) 0 rfl) (sd rfl rfl (Blk.c ((hE.fr M.fr).b5) 0 rfl) (sb rfl (sb rfl (sb rfl (sd rfl rfl (M.cell 2 rfl rfl) (E9 (cl 17 rfl (AE rfl rfl call125) (EC s x _ _ _ _ (M.blk 2 rfl)) ?_)))))))
  rintro _ w4 ⟨rfl, hbw4, hfw4⟩
  have M := M.putB 2 rfl hbw4 hfw4
  refine ⟨_, rfl, A4 (A5 (A9 (A0 (yl rfl rfl (Blk.c ((hE.fr M.fr).b5) 0 rfl) (cl 19 rfl (AE rfl rfl call122) (G5 s (x.fail 4 x.tat) _ _ (M.blk 2 rfl) (hx.fail _ _).at_ hE.len (hY.fr M.fr hGx) hE.g) ?_)))))⟩
  rintro _ w5 ⟨rfl, hbw5, hfw5⟩
  have M := M.putB 2 rfl hbw5 hfw5
  exact ⟨_, rfl, A4 (A5 (A9 (A0 (ya rfl (AU (xs := [.int .u8 (x.nd.op.toNat : Int), .int .u8 (x.nd.vl.kind.toNat : Int), .int .i64 x.nd.vl.int, .bool x.nd.vl.bool, str x.nd.vl.text, str x.nd.nm, .slice none 0 0]) rfl rfl (M.rdBlk 0 rfl rfl) underlying129 rfl AR) (B8 (cs' := [.int .u8 (x.nd.op.toNat : Int), .int .u8 (x.nd.vl.kind.toNat : Int), .int .i64 x.nd.vl.int, .bool x.nd.vl.bool, str x.nd.vl.text, str x.nd.nm, .slice none 0 0]) M 1 (AA rfl) rfl rfl rfl rfl rfl AR rfl (AI rfl) (AY rfl) rfl fun w6 M => A4 (A5 (AF (E8 rfl rfl (M.rdBlk 1 rfl rfl) underlying129 rfl AR ⟨none, [], congrArg (fun z => Ending.returned (.agg z)) (congrArg List.toArray hc.symm), Xn.AtL.leaf hx.leaf, (fun k hk => absurd hk (by simp)), by rw [MQ, if_pos h10p]; exact M.blk 2 rfl, M.fr⟩))))))))⟩
 ·have h10p := (odf h10)
  refine AN (A5 (A9 (A0 (yl rfl rfl (Blk.c ((hE.fr M.fr).b5) 0 rfl) (cl 19 rfl (AE rfl rfl call122) (G5 s x _ _ (M.blk 2 rfl) hx.at_ hE.len (hY.fr M.fr hGx) hE.g) ?_)))))
  rintro _ w7 ⟨rfl, hbw7, hfw7⟩
  have M := M.putB 2 rfl hbw7 hfw7
  exact ⟨_, rfl, A4 (A5 (A9 (A0 (ya rfl (AU (xs := [.int .u8 (x.nd.op.toNat : Int), .int .u8 (x.nd.vl.kind.toNat : Int), .int .i64 x.nd.vl.int, .bool x.nd.vl.bool, str x.nd.vl.text, str x.nd.nm, .slice none 0 0]) rfl rfl (M.rdBlk 0 rfl rfl) underlying129 rfl AR) (B8 (cs' := [.int .u8 (x.nd.op.toNat : Int), .int .u8 (x.nd.vl.kind.toNat : Int), .int .i64 x.nd.vl.int, .bool x.nd.vl.bool, str x.nd.vl.text, str x.nd.nm, .slice none 0 0]) M 1 (AA rfl) rfl rfl rfl rfl rfl AR rfl (AI rfl) (AY rfl) rfl fun w8 M => A4 (A5 (AF (E8 rfl rfl (M.rdBlk 1 rfl rfl) underlying129 rfl AR ⟨none, [], congrArg (fun z => Ending.returned (.agg z)) (congrArg List.toArray hc.symm), Xn.AtL.leaf hx.leaf, (fun k hk => absurd hk (by simp)), by rw [MQ, if_neg h10p]; exact M.blk 2 rfl, M.fr⟩))))))))⟩
theorem W3 {s : List UInt8} {gx c5 c6 c7 c8 c9 c10 : Nat} {f : Nat} {fr : Nat → Lx → Xn × Lx} (hF : FromOK s gx c5 c6 c7 c8 c9 c10 f fr)  (x : Lx) (w : World) (hb : Blk w gx 142 (Lx.cells s x)) (hx : LxI s x) (he : x.e = 0) (hs : ¬ x.say = []) (hm : lxM s x ≤ f + 1) (hE : PE s w gx c5 c6 c7 c8 c9 c10) (hY : Lay0 w) :
 Calls prog 126 #[pg c5, pg c6] w (VM s gx w (EQ s fr x)) := by
 have hGx : ∀ k, k = gx → nGlob ≤ k := fun _ e => e ▸ hE.g
 have hst := JU hx he hs
 refine AJ (vs := [_, _]) func126 rfl ntmps126 rfl ?_
 have M : Mem w (fun k => k = gx) [As.blk gx 142 (Lx.cells s x)] w := Mem.one hb
 refine A9 (A0 (BI M (AA rfl) rfl rfl 129 rfl [.int .u8 0, .int .u8 0, .int .i64 0, .bool false, str [], str [], .slice none 0 0] D0 rfl fun g2 w1 hg2 M => A4 (A5 (A9 (A0 (yl rfl rfl (Blk.c ((hE.fr M.fr).b5) 0 rfl) (cl 5 rfl (AE rfl rfl call122) (G5 s x _ _ (M.blk 1 rfl) hx.at_ hE.len (hY.fr M.fr hGx) hE.g) ?_)))))))
 rintro _ w2 ⟨rfl, hbw2, hfw2⟩
 have M := M.putB 1 rfl hbw2 hfw2
 refine ⟨_, rfl, A4 (A5 (A9 (A0 (yl rfl rfl (Blk.c ((hE.fr M.fr).b6) 0 rfl) (cl 7 rfl (BK rfl rfl rfl call128) (hF.call 1 (B6 s x) _ (by omega) (M.blk 1 rfl) DO (by omega) (hE.fr M.fr) (hY.fr M.fr hGx)) ?_)))))⟩
 rintro _ w3 ⟨A7, F7, rfl, hat7, hnw7, hbw3, hfw3⟩
 have M := M.putPush 1 rfl hbw3 hfw3 (As.xn 129 (fr 1 (B6 s x)).1 A7 F7) hat7 hnw7
 have hI7 := hF.I.I 1 (B6 s x) DO (by omega)
 refine ⟨_, rfl, ?_⟩
 have hm7 := hF.I.m 1 (B6 s x) DO (by omega)
 refine BI M (AA rfl) rfl rfl 129 rfl [.int .u8 0, .int .u8 0, .int .i64 0, .bool false, str [], str [], .slice none 0 0] D0 rfl fun g3 w4 hg3 M => B8 (cs' := (Xn.cells ((fr 1 (B6 s x)).1) A7)) M 0 (AA rfl) rfl rfl rfl rfl rfl AR rfl (AI rfl) (AY rfl) rfl fun w5 M => A4 (A5 (A9 (A9 (A0 (yl rfl rfl (Blk.c ((hE.fr M.fr).b5) 0 rfl) (yb rfl (yb rfl (yb rfl (yl rfl rfl (M.cell 3 rfl rfl) (ya rfl (GR rfl rfl rfl) (A4 ?_)))))))))))
 refine A5 (AT (b := (!decide ((fr 1 (B6 s x)).2.say = [41]))) rfl (fun h13 => ?_) (fun h13 => ?_))
 ·have h13p := (odf (C4 h13))
  refine GC 6 DV (by kernel_rfl) ?_
  have M := M.drew
  refine sd rfl rfl (Blk.c ((hE.fr M.fr).b5) 0 rfl) (sd rfl rfl (Blk.c ((hE.fr M.fr).b5) 0 rfl) (sb rfl (sb rfl (sb rfl (sd rfl rfl (M.cell 3 rfl rfl) (E9 (cl 20 rfl (AE rfl rfl call125) (EC s ((fr 1 (B6 s x)).2) _ _ _ _ (M.blk 3 rfl)) ?_)))))))
  rintro _ w6 ⟨rfl, hbw6, hfw6⟩
  have M := M.putB 3 rfl hbw6 hfw6
  refine ⟨_, rfl, A4 (A5 (A9 (A0 (yl rfl rfl (Blk.c ((hE.fr M.fr).b5) 0 rfl) (cl 22 rfl (AE rfl rfl call122) (G5 s (((fr 1 (B6 s x)).2).fail 4 ((fr 1 (B6 s x)).2.tat)) _ _ (M.blk 3 rfl) (hI7.fail _ _).at_ hE.len (hY.fr M.fr hGx) hE.g) ?_)))))⟩
  rintro _ w7 ⟨rfl, hbw7, hfw7⟩
  have M := M.putB 3 rfl hbw7 hfw7
  exact ⟨_, rfl, A4 (A5 (A9 (A0 (ya rfl (AU (xs := Xn.cells ((fr 1 (B6 s x)).1) A7) rfl rfl (M.rdBlk 0 rfl rfl) underlying129 rfl AR) (B8 (cs' := (Xn.cells ((fr 1 (B6 s x)).1) A7)) M 2 (AA rfl) rfl rfl rfl rfl rfl AR rfl (AI rfl) (AY rfl) rfl fun w8 M => A4 (A5 (AF (E8 rfl rfl (M.rdBlk 2 rfl rfl) underlying129 rfl AR ⟨_, _, rfl, M.ok 1 _ rfl, M.newOf 1 3 rfl rfl (by decide), by rw [EQ, if_pos h13p]; exact M.blk 3 rfl, M.fr⟩))))))))⟩
 ·have h13p := (odt (C5 h13))
  refine AN (A5 (A9 (A0 (yl rfl rfl (Blk.c ((hE.fr M.fr).b5) 0 rfl) (cl 22 rfl (AE rfl rfl call122) (G5 s ((fr 1 (B6 s x)).2) _ _ (M.blk 3 rfl) hI7.at_ hE.len (hY.fr M.fr hGx) hE.g) ?_)))))
  rintro _ w9 ⟨rfl, hbw9, hfw9⟩
  have M := M.putB 3 rfl hbw9 hfw9
  exact ⟨_, rfl, A4 (A5 (A9 (A0 (ya rfl (AU (xs := Xn.cells ((fr 1 (B6 s x)).1) A7) rfl rfl (M.rdBlk 0 rfl rfl) underlying129 rfl AR) (B8 (cs' := (Xn.cells ((fr 1 (B6 s x)).1) A7)) M 2 (AA rfl) rfl rfl rfl rfl rfl AR rfl (AI rfl) (AY rfl) rfl fun w10 M => A4 (A5 (AF (E8 rfl rfl (M.rdBlk 2 rfl rfl) underlying129 rfl AR ⟨_, _, rfl, M.ok 1 _ rfl, M.newOf 1 3 rfl rfl (by decide), by rw [EQ, if_neg (fun z => z h13p)]; exact M.blk 3 rfl, M.fr⟩))))))))⟩
theorem iB {s : List UInt8} {gx c5 c6 c7 c8 c9 c10 : Nat} {f : Nat} {fr : Nat → Lx → Xn × Lx} (hF : FromOK s gx c5 c6 c7 c8 c9 c10 f fr) (line : Nat) (hl : line ≤ 7) (x : Lx) (w : World) (hb : Blk w gx 142 (Lx.cells s x)) (hx : LxI s x) (he : x.e = 0) (hm : lxM s x ≤ f + 1) (hE : PE s w gx c5 c6 c7 c8 c9 c10) (hY : Lay0 w) :
 Calls prog 127 #[.int .i64 (line : Int), pg c5, pg c7, pg c9, pg c8] w (VM s gx w (D6 s fr line x)) := by
 have hGx : ∀ k, k = gx → nGlob ≤ k := fun _ e => e ▸ hE.g
 refine AJ (vs := [_, _, _, _, _]) func127 rfl ntmps127 rfl ?_
 have M : Mem w (fun k => k = gx) [As.blk gx 142 (Lx.cells s x)] w := Mem.one hb
 refine A9 (A0 (BI M (AA rfl) rfl rfl 129 rfl [.int .u8 0, .int .u8 0, .int .i64 0, .bool false, str [], str [], .slice none 0 0] D0 rfl fun g6 w1 hg6 M => A4 (A5 (A9 (AV (A9 (A0 (yl rfl rfl (Blk.c ((hE.fr M.fr).b5) 0 rfl) (yb rfl (yb rfl (yb rfl (yl rfl rfl (M.cell 1 rfl rfl) (ya rfl (DE rfl rfl rfl) ?_)))))))))))))
 refine yb rfl (AX 3 [(1, pg c5), (2, pg c7), (3, pg c9), (4, pg c8), (6, pg g6), (17, .bool ((decide (x.say = [110, 111, 116])) && (decide (((line : Nat) : Int) ≤ (3 : Int)))))] (fun w' => Mem w (fun k => k = gx) [As.blk g6 129 [.int .u8 0, .int .u8 0, .int .i64 0, .bool false, str [], str [], .slice none 0 0], As.blk gx 142 (Lx.cells s x)] w') ?_ (fun k14 => ?_))
 ·intro w2 M
  refine yb rfl (A4 (A5 (AT (b := ((decide (x.say = [110, 111, 116])) && (decide (((line : Nat) : Int) ≤ (3 : Int))))) rfl (fun h7 => ?_) (fun h7 => ?_))))
  ·have h7p := (And.intro (odt (C9 h7).1) (odt (C9 h7).2))
   refine A9 (A0 (yl rfl rfl (Blk.c ((hE.fr M.fr).b7) 0 rfl) (cl 19 rfl (BK rfl rfl rfl call123) (UL hF 3 3 (by decide) x _ (M.blk 1 rfl) hx he (by rw [h7p.1]; decide) hm (hE.fr M.fr) (hY.fr M.fr hGx)) ?_)))
   rintro _ w3 ⟨A19, F19, rfl, hat19, hnw19, hbw3, hfw3⟩
   have M := M.putPush 1 rfl hbw3 hfw3 (As.xn 129 (IW s fr 3 3 x).1 A19 F19) hat19 hnw19
   have hI19 := (R3 hF.I hx he (by rw [h7p.1]; decide) hm 3 3).1
   refine ⟨_, rfl, B8 (cs' := (Xn.cells ((IW s fr 3 3 x).1) A19)) M 1 (AA rfl) rfl rfl rfl rfl rfl AR rfl (AI rfl) (AY rfl) rfl fun w4 M => A4 (A5 (AF (AL (AB (E8 rfl rfl (M.rdBlk 1 rfl rfl) underlying129 rfl AR ?_)))))⟩
   have hfp : D6 s fr line x = IW s fr 3 3 x := by unfold D6; exact if_pos ⟨h7p.1, by omega⟩
   rw [hfp]
   exact ⟨_, _, rfl, M.ok 0 _ rfl, M.newOf 0 2 rfl rfl (by decide), M.blk 2 rfl, M.fr⟩
  ·have h7p := ((EH h7).imp (fun z => (odf z)) (fun z => (odf z)))
   have h7n : ¬ (x.say = [110, 111, 116] ∧ line ≤ 3) := fun z => h7p.elim (fun q => q z.1) (fun q => q (by omega))
   refine A9 (A0 (yl rfl rfl (Blk.c ((hE.fr M.fr).b5) 0 rfl) (yb rfl (yb rfl (yb rfl (yl rfl rfl (M.cell 1 rfl rfl) (ya rfl (DE rfl rfl rfl) (yb rfl (A4 (A5 (AT (b := (decide (x.say = [45]))) rfl (fun h20 => ?_) (fun h20 => ?_))))))))))))
   ·have h20p := (odt h20)
    refine A9 (A0 (yl rfl rfl (Blk.c ((hE.fr M.fr).b7) 0 rfl) (cl 28 rfl (BK rfl rfl rfl call123) (UL hF 4 7 (by decide) x _ (M.blk 1 rfl) hx he (by rw [h20p]; decide) hm (hE.fr M.fr) (hY.fr M.fr hGx)) ?_)))
    rintro _ w5 ⟨A28, F28, rfl, hat28, hnw28, hbw5, hfw5⟩
    have M := M.putPush 1 rfl hbw5 hfw5 (As.xn 129 (IW s fr 4 7 x).1 A28 F28) hat28 hnw28
    have hI28 := (R3 hF.I hx he (by rw [h20p]; decide) hm 4 7).1
    refine ⟨_, rfl, B8 (cs' := (Xn.cells ((IW s fr 4 7 x).1) A28)) M 1 (AA rfl) rfl rfl rfl rfl rfl AR rfl (AI rfl) (AY rfl) rfl fun w6 M => A4 (A5 (AF (AL (AB (E8 rfl rfl (M.rdBlk 1 rfl rfl) underlying129 rfl AR ?_)))))⟩
    have hfp : D6 s fr line x = IW s fr 4 7 x := by unfold D6; rw [if_neg (fun z => h7n z), if_pos h20p]
    rw [hfp]
    exact ⟨_, _, rfl, M.ok 0 _ rfl, M.newOf 0 2 rfl rfl (by decide), M.blk 2 rfl, M.fr⟩
   ·have h20p := (odf h20)
    refine A9 (A0 (yl rfl rfl (Blk.c ((hE.fr M.fr).b5) 0 rfl) (yb rfl (yb rfl (yb rfl (yl rfl rfl (M.cell 1 rfl rfl) (ya rfl (DE rfl rfl rfl) (yb rfl (A4 (A5 (AT (b := (decide (x.say = [40]))) rfl (fun h29 => ?_) (fun h29 => ?_))))))))))))
    ·have h29p := (odt h29)
     refine A9 (A0 (yl rfl rfl (Blk.c ((hE.fr M.fr).b9) 0 rfl) (cl 37 rfl (BK rfl rfl rfl call126) (W3 hF x _ (M.blk 1 rfl) hx he (by rw [h29p]; decide) hm (hE.fr M.fr) (hY.fr M.fr hGx)) ?_)))
     rintro _ w7 ⟨A37, F37, rfl, hat37, hnw37, hbw7, hfw7⟩
     have M := M.putPush 1 rfl hbw7 hfw7 (As.xn 129 (EQ s fr x).1 A37 F37) hat37 hnw37
     have hI37 := (TF hF.I hx he (by rw [h29p]; decide) hm).1
     refine ⟨_, rfl, B8 (cs' := (Xn.cells ((EQ s fr x).1) A37)) M 1 (AA rfl) rfl rfl rfl rfl rfl AR rfl (AI rfl) (AY rfl) rfl fun w8 M => A4 (A5 (AF (AL (AB (E8 rfl rfl (M.rdBlk 1 rfl rfl) underlying129 rfl AR ?_)))))⟩
     have hfp : D6 s fr line x = EQ s fr x := by unfold D6; rw [if_neg (fun z => h7n z), if_neg h20p, if_pos h29p]
     rw [hfp]
     exact ⟨_, _, rfl, M.ok 0 _ rfl, M.newOf 0 2 rfl rfl (by decide), M.blk 2 rfl, M.fr⟩
    ·have h29p := (odf h29)
     refine AN (AC (A5 (A9 (A0 (yl rfl rfl (Blk.c ((hE.fr M.fr).b8) 0 rfl) (cl 39 rfl (BK rfl rfl rfl call124) (mG x _ (M.blk 1 rfl) hx (hE.fr M.fr) (hY.fr M.fr hGx)) ?_))))))
     rintro _ w9 ⟨A39, F39, rfl, hat39, hnw39, hbw9, hfw9⟩
     have M := M.putPush 1 rfl hbw9 hfw9 (As.xn 129 (MQ s x).1 A39 F39) hat39 hnw39
     have hI39 := (pN hx).1
     refine ⟨_, rfl, B8 (cs' := (Xn.cells ((MQ s x).1) A39)) M 1 (AA rfl) rfl rfl rfl rfl rfl AR rfl (AI rfl) (AY rfl) rfl fun w10 M => A4 (A5 (AF (E8 rfl rfl (M.rdBlk 1 rfl rfl) underlying129 rfl AR ?_)))⟩
     have hfp : D6 s fr line x = MQ s x := by unfold D6; rw [if_neg (fun z => h7n z), if_neg h20p, if_neg h29p]
     rw [hfp]
     exact ⟨_, _, rfl, M.ok 0 _ rfl, M.newOf 0 2 rfl rfl (by decide), M.blk 2 rfl, M.fr⟩
 refine AM (d := 14) (b := (decide (x.say = [110, 111, 116]))) rfl (fun h14 => ?_) (fun h14 => ?_)
 ·exact yd rfl (yp rfl) (yd rfl (K5 rfl rfl rfl) (yb rfl (k14 _ _ M ⟨rfl, rfl, rfl, rfl, rfl, (by rw [h14]; rfl), trivial⟩)))
 ·exact yo rfl (yo rfl (yb rfl (k14 _ _ M ⟨rfl, rfl, rfl, rfl, rfl, (by rw [h14]; rfl), trivial⟩)))
end Go.Proofs.YtdaihdknnlphkaaGreatDoor
