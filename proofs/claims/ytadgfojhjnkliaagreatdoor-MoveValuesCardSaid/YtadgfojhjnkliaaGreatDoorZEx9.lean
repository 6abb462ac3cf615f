/- Lemmas that the last text rests on. Condition: each says its own. -/
import Derived.Test.YtadgfojhjnkliaaGreatDoorZEx8
import Derived.Test.YtadgfojhjnkliaaGreatDoorZRu1
set_option maxHeartbeats 16000000
set_option maxRecDepth 100000
namespace Go.Proofs.YtadgfojhjnkliaaGreatDoor
open Go.RowKit
open Tryz
abbrev Xq := Xn × Option Addr
def Xq.cells (q : Xq) : List Value := q.1.cells q.2
theorem Xq.len (q : Xq) : q.cells.length = 7 := rfl
def I7 (n : Xn) (A : Option Addr) (k : Nat) : List Value := [.int .u8 (n.op.toNat : Int), .int .u8 (n.vl.kind.toNat : Int), .int .i64 n.vl.int, .bool n.vl.bool, str n.vl.text, str n.nm, .slice A k k]
theorem J8 {z : UInt8} {l : List UInt8} (h : l[0]? = some z) : l.headD 0 = z := by cases l <;> simp_all
def M4 (f : Xq → UInt8 × Int) : List Xq → Option Int
 | [] => none
 | q :: r => if (!decide ((f q).2 = 0)) = true then some (f q).2 else M4 f r
def XQ (op : UInt8) (ts : List UInt8) (z : UInt8) : UInt8 × Int :=
 if (ts.any (fun t => !decide ((t.toNat : Int) = (z.toNat : Int)))) = true then (0, 90)
 else if ((decide ((op.toNat : Int) = (7 : Int))) || (decide ((op.toNat : Int) = (8 : Int)))) = true then (2, 0)
 else if ((((decide ((op.toNat : Int) = (3 : Int))) || (decide ((op.toNat : Int) = (5 : Int)))) || (decide ((op.toNat : Int) = (6 : Int)))) && (decide ((z.toNat : Int) = (2 : Int)))) = true then (z, 0)
 else if (((decide ((9 : Int) ≤ (op.toNat : Int))) && (decide ((op.toNat : Int) ≤ (12 : Int)))) && (!decide ((z.toNat : Int) = (2 : Int)))) = true then (2, 0)
 else if ((((decide ((op.toNat : Int) = (4 : Int))) || (decide ((13 : Int) ≤ (op.toNat : Int)))) && (decide ((z.toNat : Int) = (1 : Int)))) || ((decide ((op.toNat : Int) = (13 : Int))) && (decide ((z.toNat : Int) = (3 : Int))))) = true then (z, 0)
 else (0, 90)
def OF (op : UInt8) (ts : List UInt8) : UInt8 × Int := XQ op ts (ts.headD 0)
def tyW (n : Xn) (vars : List Bd) (f : Xq → UInt8 × Int) (L : List Xq) : UInt8 × Int :=
 if (decide ((n.op.toNat : Int) = (1 : Int))) = true then (n.vl.kind, 0)
 else if (decide ((n.op.toNat : Int) = (2 : Int))) = true then (match ffN (fun (_ : Nat) (b : Bd) => !(decide (b.name = n.nm))) 0 vars with
  | none => (0, 100)
  | some b => (b.v.kind, 0))
 else match M4 f L with
  | some e => (0, e)
  | none => OF n.op (L.map (fun q => (f q).1))
theorem YK : (prog.info? 5).map (fun i => (i.zero, i.size, i.bytes)) = some (some (.int .u8 0), 1, 1) := by kernel_rfl
theorem eA : (prog.info? 5).map (fun i => (i.zero, i.size)) = some (some (.int .u8 0), 1) := by kernel_rfl
theorem PY : (prog.info? 5).map (·.size) = some 1 := by kernel_rfl
theorem f9 : (prog.info? 5).map (·.zero) = some (some (.int .u8 0)) := by kernel_rfl
theorem o5 (A : Option Addr) (c : Nat) (l : List UInt8) (hl : l.length ≤ 4611686018427387904) (f : FuncId) (cs : List Value) (p : Nat → UInt8 → Bool) (S : Nat → Prop) (J : Nat → World → Prop) (w : World) (hP : PredJ prog f cs (fun b => .int .u8 (b.toNat : Int)) l p S J w) (hR : ∀ w1, Fr S w w1 → Rd w1 A (l.length * 1) (AR HC l)) (hJ : J 0 w) :
 Calls prog 192 #[.slice A l.length c, .func (.func f) #[] cs.toArray] w fun e w' => e = .returned (.int .i64 (ixJ p 0 l)) ∧ J (ixN p 0 l) w' ∧ Fr S w w' := by
 refine AK (vs := [_, _]) func192 rfl ntmps192 rfl ?_
 have M : Mem w S [] w := Mem.nil w
 refine A4 (A0 (yb rfl (A1 (A2 (A4 (A4 (A0 (yb rfl (ya rfl (CY rfl rfl (sl rfl)) (yb rfl (A1 (A2 (AV (CM (fun e wr mz => ∃ (i : Nat), e = [(0, .slice A l.length c), (1, .func (.func f) #[] cs.toArray), (7, .int .i64 ((l.length : Nat) : Int)), (8, .int .i64 ((i : Nat) : Int))] ∧ Mem w S [] wr ∧ (i ≤ l.length) ∧ (J i wr) ∧ (ixJ p 0 l = ixJ p i (l.drop i)) ∧ (ixN p 0 l = ixN p i (l.drop i)) ∧ mz = l.length - i) ⟨0, rfl, M, Nat.zero_le _, hJ, rfl, rfl, rfl⟩ ⟨rfl, rfl, rfl, rfl, trivial⟩ ?_))))))))))))))
 rintro _ w1 _ ⟨i, rfl, M, hi, hJ, hr, hn, rfl⟩
 refine A4 (A0 (ya rfl (CH rfl rfl rfl) (A1 (A2 (A4 (AQ (b := (decide (((i : Nat) : Int) < ((l.length : Nat) : Int)))) rfl (fun h9 => ?_) (fun h9 => ?_)))))))
 ·have h9p := (odt h9)
  refine AL (A2 (A4 (AV (A4 (A0 (yb rfl (yb rfl (A1 (A2 (A4 (A0 (yb rfl (yb rfl (yb rfl ?_))))))))))))))
  obtain ⟨x, hx⟩ := DY (l := l) (i := i) (by omega)
  obtain ⟨b_x, o_x, hA_x⟩ := CL (k := 1) (by omega) (hR _ M.fr) hx
  refine ya rfl (BW i hA_x rfl rfl rfl (sl rfl) (by omega)) (yl rfl rfl (G1 TL (hR _ M.fr) hA_x hx 0 rfl) (cl 16 rfl (C0 rfl rfl rfl hP.fn) (hP.call i x _ hx M.fr hJ) ?_))
  rintro _ w9 ⟨rfl, hJ, hf9⟩
  refine ⟨_, rfl, ?_⟩
  have M : Mem w S [] w9 := Mem.ofFr (M.fr.trans hf9)
  refine A1 (A2 (AQ (b := (p i x)) rfl (fun h16 => ?_) (fun h16 => ?_)))
  ·exact A4 (A0 (yb rfl (yb rfl (A1 (A2 (AD (AJ (AA (AA (AJ (AA (AH rfl rfl ⟨by rw [hr, BG hx, ixJ, if_pos h16], by rw [hn, BG hx, ixN, if_pos h16]; exact hJ, M.fr⟩))))))))))))
  ·refine AL (AC (A2 (A0 (ya rfl (CQ rfl rfl rfl (by omega)) (yb rfl (A1 (BM [(0, .slice A l.length c), (1, .func (.func f) #[] cs.toArray), (7, .int .i64 ((l.length : Nat) : Int)), (8, .int .i64 (((i + 1) : Nat) : Int))] (l.length - (i + 1)) ⟨i + 1, rfl, M, ?_, ?_, ?_, ?_, rfl⟩ (by first | omega | (simp <;> omega)) ⟨rfl, rfl, rfl, rfl, trivial⟩)))))))
   ·omega
   ·exact hJ
   ·rw [hr, BG hx, ixJ, if_neg (BA h16)]
   ·rw [hn, BG hx, ixN, if_neg (BA h16)]
 ·have h9p := (odf h9)
  refine CD (AI (AI (BB (A2 (A4 (A0 (yb rfl (A1 (A2 (AD (AH rfl rfl ?_)))))))))))
  obtain rfl : i = l.length := by omega
  exact ⟨by rw [hr, List.drop_length]; rfl, by rw [hn, List.drop_length]; exact hJ, M.fr⟩
theorem kR (A : Option Addr) (c : Nat) (l : List UInt8) (hl : l.length ≤ 4611686018427387904) (f : FuncId) (cs : List Value) (p : Nat → UInt8 → Bool) (S : Nat → Prop) (J : Nat → World → Prop) (w : World) (hP : PredJ prog f cs (fun b => .int .u8 (b.toNat : Int)) l p S J w) (hR : ∀ w1, Fr S w w1 → Rd w1 A (l.length * 1) (AR HC l)) (hJ : J 0 w) :
 Calls prog 176 #[.slice A l.length c, .func (.func f) #[] cs.toArray] w fun e w' => e = .returned (.bool (decide (0 ≤ ixJ p 0 l))) ∧ J (ixN p 0 l) w' ∧ Fr S w w' := by
 refine AK (vs := [_, _]) func176 rfl ntmps176 rfl ?_
 have M : Mem w S [] w := Mem.nil w
 refine A4 (A0 (yb rfl (A1 (A2 (A4 (A0 (yb rfl (yb rfl (cl 7 rfl (AF rfl rfl call192) (o5 A c l hl f cs p S J _ hP hR hJ) ?_)))))))))
 rintro _ w9 ⟨rfl, hJ, hf9⟩
 refine ⟨_, rfl, ?_⟩
 have M : Mem w S [] w9 := Mem.ofFr hf9
 exact ya rfl (EP rfl rfl rfl) (yb rfl (A1 (A2 (AD (AH rfl rfl ⟨rfl, hJ, M.fr⟩)))))
theorem p5 (A : Option Addr) (c : Nat) (l : List UInt8) (hl : l.length ≤ 4611686018427387904) (f : FuncId) (cs : List Value) (p : UInt8 → Bool) (w : World) (hP : PredJ prog f cs (fun b => .int .u8 (b.toNat : Int)) l (fun _ => p) AB (fun _ _ => True) w) (hR : Rd w A (l.length * 1) (AR HC l)) :
 Calls prog 176 #[.slice A l.length c, .func (.func f) #[] cs.toArray] w fun e w' => e = .returned (.bool (l.any p)) ∧ Fr0 w w' :=
 (kR A c l hl f cs (fun _ => p) AB (fun _ _ => True) w hP (fun _ hf => hR.fr0 hf) trivial).mono fun _ _ ⟨h1, _, h2⟩ => ⟨by rw [h1, JN], h2⟩
theorem qG (n : Xn) (A : Option Addr) (k g2 : Nat) (b : Bd) (w : World) (hb : Blk w g2 70 (I7 n A k)) :
 Calls prog 175 #[.agg b.cells.toArray, pg g2] w fun e w' => e = .returned (.bool (decide (b.name = n.nm))) ∧ Fr0 w w' := by
 refine AK (vs := [_, _]) func175 rfl ntmps175 rfl ?_
 have M := CK w
 refine A4 (A0 (BD M (A9 rfl) rfl rfl 95 rfl rfl (Bd.cells b) rfl fun g2 w1 hg2 M => yb rfl (A1 (A2 (A4 (A0 (yb rfl (yl rfl rfl (M.cell 0 rfl rfl) (yb rfl (yl rfl rfl (Blk.c (hb.fr0 M.fr) 5 rfl) (ya rfl (DG rfl rfl rfl) (yb rfl (A1 ?_)))))))))))))
 exact A2 (AD (AH rfl rfl ⟨rfl, M.fr⟩))
theorem qF (g12 : Nat) (t z : UInt8) (w : World) (hb : Blk w g12 5 [.int .u8 (z.toNat : Int)]) :
 Calls prog 177 #[.int .u8 (t.toNat : Int), pg g12] w fun e w' => e = .returned (.bool (!decide ((t.toNat : Int) = (z.toNat : Int)))) ∧ Fr0 w w' := by
 refine AK (vs := [_, _]) func177 rfl ntmps177 rfl ?_
 have M := CK w
 exact A4 (A0 (yb rfl (A1 (A2 (A4 (A0 (yb rfl (yl rfl rfl (Blk.c (hb.fr0 M.fr) 0 rfl) (ya rfl (CX rfl rfl rfl) (yb rfl (A1 (A2 (AD (AH rfl rfl ⟨rfl, M.fr⟩))))))))))))))
theorem fP (n : Xn) (A : Option Addr) (V : Option Addr) (cv : Nat) (vars : List Bd) (L : List Xq) (f : Xq → UInt8 × Int) (w : World) (hvl : vars.length ≤ 4611686018427387904) (hV : Rd w V (vars.length * 5) (AR Bd.cells vars)) (hl : L.length ≤ 2) (hR : Rd w A (L.length * 7) (AR Xq.cells L)) (hk : ¬ (n.op.toNat : Int) = 1 → ¬ (n.op.toNat : Int) = 2 → 0 < L.length)
 (hT : ∀ q ∈ L, ∀ W, Fr0 w W → Calls prog 154 #[.agg (Xq.cells q).toArray, .slice V vars.length cv] W fun e W' => e = .returned (.tuple #[.int .u8 ((f q).1.toNat : Int), .int .i64 (f q).2]) ∧ Fr0 W W') :
 Calls prog 154 #[.agg (I7 n A L.length).toArray, .slice V vars.length cv] w fun e w' => e = .returned (.tuple #[.int .u8 ((tyW n vars f L).1.toNat : Int), .int .i64 (tyW n vars f L).2]) ∧ Fr0 w w' := by
 refine AK (vs := [_, _]) func154 rfl ntmps154 rfl ?_
 have M := CK w
 refine A4 (A0 (BD M (A9 rfl) rfl rfl 70 rfl rfl (I7 n A L.length) rfl fun g2 w1 hg2 M => yb rfl (yb rfl (A1 (A2 (A4 (A4 (A0 (yb rfl (yl rfl rfl (M.cell 0 rfl rfl) (A1 (A2 (AV ?_)))))))))))))
 refine A4 (A0 (ya rfl (B9 rfl rfl rfl) (yb rfl (A1 (A2 (AQ (b := (decide ((n.op.toNat : Int) = (1 : Int)))) rfl (fun h15 => ?_) (fun h15 => ?_)))))))
 ·have h15p := (odt h15)
  exact A4 (A0 (yb rfl (yb rfl (yl rfl rfl (M.cell 0 rfl rfl) (yb rfl (yb rfl (A1 (A2 (AD (AJ (AA (BY rfl rfl rfl ⟨by rw [tyW, if_pos h15], M.fr⟩))))))))))))
 ·have h15p := (odf h15)
  refine A4 (A0 (ya rfl (B9 rfl rfl rfl) (yb rfl (A1 (A2 (AQ (b := (decide ((n.op.toNat : Int) = (2 : Int)))) rfl (fun h20 => ?_) (fun h20 => ?_)))))))
  ·have h20p := (odt h20)
   refine A4 (A0 (yb rfl (ya rfl (CT (us := []) (vs := [pg g2]) rfl rfl rfl) (cl 24 rfl (AF rfl rfl call112) (PJ Bd.cells Bd.len V cv vars (by omega) 175 [pg g2] (fun (_ : Nat) (b : Bd) => !(!(decide (b.name = n.nm)))) AB (fun _ _ => True) _ (GE call175 (fun b _ w9 hf9 => (qG n A L.length g2 b w9 ((M.blk 0 rfl).fr0 hf9)).mono fun _ _ ⟨h1, h2⟩ => ⟨by rw [h1, Bool.not_not], h2⟩)) (fun _ hf9 => (hV.fr0 M.fr).fr0 hf9) trivial) ?_))))
   rintro _ w2 ⟨rfl, _, hfw2⟩
   refine ⟨_, rfl, ?_⟩
   have M := M.step hfw2
   refine yb rfl (A1 (A2 (A4 (A4 (A0 (yb rfl (ya rfl (CH rfl rfl rfl) (A1 (A2 (AQ (b := (decide ((ixJ (fun (_ : Nat) (b : Bd) => !(!(decide (b.name = n.nm)))) 0 vars) < (0 : Int)))) rfl (fun h26 => ?_) (fun h26 => ?_)))))))))))
   ·have h26p := (odt h26)
    have hvn := LQ (p := fun (_ : Nat) (b : Bd) => !(decide (b.name = n.nm))) h26p
    exact A4 (A0 (yb rfl (yb rfl (A1 (A2 (AD (AA (AJ (AA (BY rfl rfl rfl ⟨by rw [tyW, if_neg (BA h15), if_pos h20, hvn] <;> rfl, M.fr⟩))))))))))
   ·have h26p := (odf h26)
    obtain ⟨j, b, hj, hb, hff⟩ := LR (p := fun (_ : Nat) (b : Bd) => !(decide (b.name = n.nm))) h26p
    have hjl : j < vars.length := (List.getElem?_eq_some_iff.1 hb).1
    rw [hj]
    obtain ⟨b_b, o_b, hA_b⟩ := CL (k := 5) (by omega) (hV.fr0 M.fr) hb
    refine AL (A2 (A4 (A0 (yb rfl (yb rfl (ya rfl (BW j hA_b rfl rfl rfl (sl rfl) (by omega)) (yb rfl (yb rfl (yl rfl rfl (G1 Bd.len (hV.fr0 M.fr) hA_b hb 1 rfl) (yb rfl (yb rfl (A1 (A2 (AD (AJ ?_)))))))))))))))
    exact AA (BY rfl rfl rfl ⟨by rw [tyW, if_neg (BA h15), if_pos h20, hff] <;> rfl, M.fr⟩)
  ·have h20p := (odf h20)
   refine AL (AC (A2 (A4 (A0 (yb rfl (A1 (A2 (A4 (A4 (A0 (yb rfl (yl rfl rfl (M.cell 0 rfl rfl) (ya rfl (CY rfl rfl (sl rfl)) (yb rfl (A1 ?_)))))))))))))))
   refine A2 (AV ?_)
   have M := M.nilOwn 5 1
   refine CM (fun e wr mz => ∃ (i : Nat) (acc : List UInt8) (A7 : Option Addr) (c7 : Nat), e = [(1, .slice V vars.length cv), (2, pg g2), (7, .slice A7 acc.length c7), (34, .slice A L.length L.length), (35, .int .i64 ((L.length : Nat) : Int)), (36, .int .i64 ((i : Nat) : Int))] ∧ Mem w AB [As.own w.heap.size 5 1 (.slice A7 acc.length c7) acc.length (AR HC acc), As.blk g2 70 (I7 n A L.length)] wr ∧ (i ≤ L.length) ∧ (acc = (L.take i).map (fun q => (f q).1) ∧ acc.length = i) ∧ (M4 f L = M4 f (L.drop i)) ∧ mz = L.length - i) ⟨0, [], none, 0, rfl, M, Nat.zero_le _, ⟨rfl, rfl⟩, rfl, rfl⟩ ⟨rfl, rfl, rfl, rfl, rfl, rfl, trivial⟩ ?_
   rintro _ w3 _ ⟨i, acc, A7, c7, rfl, M, hi, hacc, hE, rfl⟩
   refine A4 (A0 (ya rfl (CH rfl rfl rfl) (A1 (A2 (A4 (AQ (b := (decide (((i : Nat) : Int) < ((L.length : Nat) : Int)))) rfl (fun h37 => ?_) (fun h37 => ?_)))))))
   ·have h37p := (odt h37)
    refine AL (A2 (A4 (AV (A4 (A0 ?_)))))
    obtain ⟨x, hx⟩ := DY (l := L) (i := i) (by omega)
    obtain ⟨b_x, o_x, hA_x⟩ := CL (k := 7) (by omega) (hR.fr0 M.fr) hx
    refine ya rfl (BW i hA_x rfl rfl rfl (sl rfl) (by omega)) (ya rfl (AN rfl rfl (DK Xq.len (hR.fr0 M.fr) hA_x hx) underlying70 rfl AM) (BI M (A9 rfl) rfl rfl 70 rfl [.int .u8 0, .int .u8 0, .int .i64 0, .bool false, str [], str [], .slice none 0 0] CW rfl fun g9 w4 hg9 M => B5 (cs' := (Xq.cells x)) M 0 (A9 rfl) rfl rfl rfl rfl rfl AM rfl (AP rfl) (AW rfl) rfl fun w5 M => A1 (A2 (A4 (A0 (ya rfl (AN (xs := Xq.cells x) rfl rfl (M.rdBlk 0 rfl rfl) underlying70 rfl AM) (yb rfl (cp M 43 rfl (AF rfl rfl call154) (hT x (List.mem_of_getElem? hx) _ M.fr) fun w6 M => ?_))))))))
    iterate 5 refine yb rfl ?_
    refine A1 (A2 (A4 (A4 (A0 (yb rfl (ya rfl (CX rfl rfl rfl) (A1 (A2 (AQ (b := (!decide ((f x).2 = (0 : Int)))) rfl (fun h47 => ?_) (fun h47 => ?_))))))))))
    ·have h47p := (odf (C1 h47))
     exact A4 (A0 (yb rfl (yb rfl (yb rfl (A1 (A2 (AD (AA (AJ (AA (AA (AJ (AA (BY rfl rfl rfl ⟨by rw [tyW, if_neg (BA h15), if_neg (BA h20), hE, BG hx, M4, if_pos h47] <;> rfl, M.fr⟩))))))))))))))
    ·have h47p := (odt (C3 h47))
     refine AL (A2 (A0 (yb rfl (yb rfl (F1 M (A9 rfl) rfl rfl [.int .u8 ((f x).1.toNat : Int)] ([.int .u8 ((f x).1.toNat : Int)]) rfl rfl rfl rfl underlying194 eA rfl rfl (JL rfl) rfl fun g51 w7 hg51 M => EQ (len' := (acc ++ [((f x).1)]).length) (xs' := AR HC (acc ++ [((f x).1)])) M 2 (A9 rfl) rfl rfl rfl rfl rfl rfl (M.rdBlk 0 rfl rfl) underlying194 YK rfl (by decide) (AW rfl) (Nat.le_refl _) (Nat.le_refl _) (by first | omega | (simp <;> omega)) (by unfold maxLen; first | omega | (simp only [List.length_append, List.length_cons, List.length_nil]; omega)) (by simp) (by simp [AR, HC]) fun A52 c52 w8 M => yb rfl (A1 (AC (A2 (A0 (ya rfl (CQ rfl rfl rfl (by omega)) (yb rfl ?_)))))))))))
     refine A1 (BM [(1, .slice V vars.length cv), (2, pg g2), (7, .slice A52 (acc ++ [((f x).1)]).length c52), (34, .slice A L.length L.length), (35, .int .i64 ((L.length : Nat) : Int)), (36, .int .i64 (((i + 1) : Nat) : Int))] (L.length - (i + 1)) ⟨i + 1, acc ++ [((f x).1)], A52, c52, rfl, (M.pk [2, 3]), ?_, ?_, ?_, rfl⟩ (by first | omega | (simp <;> omega)) ⟨rfl, rfl, rfl, rfl, rfl, rfl, trivial⟩)
     ·omega
     ·exact ⟨by rw [hacc.1, BH hx, List.map_append]; rfl, by rw [List.length_append, hacc.2]; rfl⟩
     ·rw [hE, BG hx, M4, if_neg (BA h47)]
   ·have h37p := (odf h37)
    refine CD (AI (AI ?_))
    have hiE : i = L.length := by omega
    have hLe : M4 f L = none := by rw [hE, hiE, List.drop_length]; rfl
    have hac : acc = L.map (fun q => (f q).1) := by rw [hacc.1, hiE, List.take_length]
    have hal : acc.length = L.length := by rw [hacc.2, hiE]
    have hLp : 0 < L.length := hk h15p h20p
    refine BB (A2 (A4 (A0 (yb rfl ?_))))
    obtain ⟨z, hz⟩ := DY (l := acc) (i := 0) (by omega)
    obtain ⟨b_z, o_z, hA_z⟩ := CL (k := 1) (by omega) (M.rdOwn 0 rfl) hz
    refine ya rfl (BW 0 hA_z rfl rfl rfl (sl rfl) (by omega)) (yl rfl rfl (G1 TL (M.rdOwn 0 rfl) hA_z hz 0 rfl) (BI M (A9 rfl) rfl rfl 5 rfl [.int .u8 0] f9 rfl fun g12 w9 hg12 M => BQ (cs' := [.int .u8 (z.toNat : Int)]) M 0 (A9 rfl) rfl rfl rfl rfl rfl rfl rfl PY (AZ rfl) rfl fun w10 M => A1 (A2 (A4 (A4 (A0 (yb rfl (ya rfl (CT (us := []) (vs := [pg g12]) rfl rfl rfl) (cp M 59 rfl (AF rfl rfl call176) (p5 A7 c7 acc (by omega) 177 [pg g12] (fun t => !decide ((t.toNat : Int) = (z.toNat : Int))) _ (GE call177 (fun t _ w9 hf9 => qF g12 t z w9 ((M.blk 0 rfl).fr0 hf9))) (M.rdOwn 1 rfl)) fun w11 M => A1 (A2 ?_))))))))))
    refine AQ (b := (acc.any (fun t => !decide ((t.toNat : Int) = (z.toNat : Int))))) rfl (fun h59 => ?_) (fun h59 => ?_)
    ·exact A4 (A0 (yb rfl (yb rfl (A1 (A2 (AD (AA (BY rfl rfl rfl ⟨by rw [tyW, if_neg (BA h15), if_neg (BA h20), hLe]; simp only; rw [← hac, OF, J8 hz, XQ, if_pos h59] <;> rfl, M.fr⟩))))))))
    ·refine AL (A2 (A4 (AV (A4 (A0 (yb rfl (yl rfl rfl (M.cell 2 rfl rfl) (ya rfl (B9 rfl rfl rfl) (yb rfl (AT 4 [(2, pg g2), (12, pg g12), (68, .bool ((decide ((n.op.toNat : Int) = (7 : Int))) || (decide ((n.op.toNat : Int) = (8 : Int)))))] (fun w' => Mem w AB [As.blk g12 5 [.int .u8 (z.toNat : Int)], As.own w.heap.size 5 1 (.slice A7 acc.length c7) acc.length (AR HC acc), As.blk g2 70 (I7 n A L.length)] w') ?_ (fun k64 => ?_)))))))))))
     ·intro w12 M
      refine yb rfl (A1 (A2 (AQ (b := ((decide ((n.op.toNat : Int) = (7 : Int))) || (decide ((n.op.toNat : Int) = (8 : Int))))) rfl (fun h60 => ?_) (fun h60 => ?_))))
      ·have h60p := ((EK h60).imp (fun z => (odt z)) (fun z => (odt z)))
       exact A4 (A0 (yb rfl (yb rfl (A1 (A2 (AD (AJ (AA (BY rfl rfl rfl ⟨by rw [tyW, if_neg (BA h15), if_neg (BA h20), hLe]; simp only; rw [← hac, OF, J8 hz, XQ, if_neg (BA h59), if_pos h60] <;> rfl, M.fr⟩)))))))))
      ·have h60p := (And.intro (odf (CA h60).1) (odf (CA h60).2))
       refine A4 (A0 (yb rfl (yl rfl rfl (M.cell 2 rfl rfl) (ya rfl (B9 rfl rfl rfl) (yb rfl (AT 4 [(2, pg g2), (12, pg g12), (77, .bool ((decide ((n.op.toNat : Int) = (3 : Int))) || (decide ((n.op.toNat : Int) = (5 : Int)))))] (fun w' => Mem w AB [As.blk g12 5 [.int .u8 (z.toNat : Int)], As.own w.heap.size 5 1 (.slice A7 acc.length c7) acc.length (AR HC acc), As.blk g2 70 (I7 n A L.length)] w') ?_ (fun k73 => ?_)))))))
       ·intro w13 M
        refine yb rfl (AT 4 [(2, pg g2), (12, pg g12), (82, .bool (((decide ((n.op.toNat : Int) = (3 : Int))) || (decide ((n.op.toNat : Int) = (5 : Int)))) || (decide ((n.op.toNat : Int) = (6 : Int)))))] (fun w' => Mem w AB [As.blk g12 5 [.int .u8 (z.toNat : Int)], As.own w.heap.size 5 1 (.slice A7 acc.length c7) acc.length (AR HC acc), As.blk g2 70 (I7 n A L.length)] w') ?_ (fun k78 => ?_))
        ·intro w14 M
         refine yb rfl (AT 3 [(2, pg g2), (12, pg g12), (86, .bool ((((decide ((n.op.toNat : Int) = (3 : Int))) || (decide ((n.op.toNat : Int) = (5 : Int)))) || (decide ((n.op.toNat : Int) = (6 : Int)))) && (decide ((z.toNat : Int) = (2 : Int)))))] (fun w' => Mem w AB [As.blk g12 5 [.int .u8 (z.toNat : Int)], As.own w.heap.size 5 1 (.slice A7 acc.length c7) acc.length (AR HC acc), As.blk g2 70 (I7 n A L.length)] w') ?_ (fun k83 => ?_))
         ·intro w15 M
          refine yb rfl (A1 (A2 (AQ (b := ((((decide ((n.op.toNat : Int) = (3 : Int))) || (decide ((n.op.toNat : Int) = (5 : Int)))) || (decide ((n.op.toNat : Int) = (6 : Int)))) && (decide ((z.toNat : Int) = (2 : Int))))) rfl (fun h69 => ?_) (fun h69 => ?_))))
          ·have h69p := (And.intro ((EK (C5 h69).1).imp (fun z => ((EK z).imp (fun z => (odt z)) (fun z => (odt z)))) (fun z => (odt z))) (odt (C5 h69).2))
           exact A4 (A0 (yl rfl rfl (M.cell 0 rfl rfl) (yb rfl (yb rfl (A1 (A2 (AD (AJ (AA (BY rfl rfl rfl ⟨by rw [tyW, if_neg (BA h15), if_neg (BA h20), hLe]; simp only; rw [← hac, OF, J8 hz, XQ, if_neg (BA h59), if_neg (BA h60), if_pos h69] <;> rfl, M.fr⟩))))))))))
          ·have h69p := ((E9 h69).imp (fun z => (And.intro (And.intro (odf (CA (CA z).1).1) (odf (CA (CA z).1).2)) (odf (CA z).2))) (fun z => (odf z)))
           refine A4 (A0 (yb rfl (yl rfl rfl (M.cell 2 rfl rfl) (ya rfl (EP rfl rfl rfl) (yb rfl (AT 4 [(2, pg g2), (12, pg g12), (96, .bool ((decide ((9 : Int) ≤ (n.op.toNat : Int))) && (decide ((n.op.toNat : Int) ≤ (12 : Int)))))] (fun w' => Mem w AB [As.blk g12 5 [.int .u8 (z.toNat : Int)], As.own w.heap.size 5 1 (.slice A7 acc.length c7) acc.length (AR HC acc), As.blk g2 70 (I7 n A L.length)] w') ?_ (fun k92 => ?_)))))))
           ·intro w16 M
            refine yb rfl (AT 3 [(2, pg g2), (12, pg g12), (100, .bool (((decide ((9 : Int) ≤ (n.op.toNat : Int))) && (decide ((n.op.toNat : Int) ≤ (12 : Int)))) && (!decide ((z.toNat : Int) = (2 : Int)))))] (fun w' => Mem w AB [As.blk g12 5 [.int .u8 (z.toNat : Int)], As.own w.heap.size 5 1 (.slice A7 acc.length c7) acc.length (AR HC acc), As.blk g2 70 (I7 n A L.length)] w') ?_ (fun k97 => ?_))
            ·intro w17 M
             refine yb rfl (A1 (A2 (AQ (b := (((decide ((9 : Int) ≤ (n.op.toNat : Int))) && (decide ((n.op.toNat : Int) ≤ (12 : Int)))) && (!decide ((z.toNat : Int) = (2 : Int))))) rfl (fun h88 => ?_) (fun h88 => ?_))))
             ·have h88p := (And.intro (And.intro (odt (C5 (C5 h88).1).1) (odt (C5 (C5 h88).1).2)) (odf (C1 (C5 h88).2)))
              exact A4 (A0 (yb rfl (yb rfl (A1 (A2 (AD (AJ (AA (BY rfl rfl rfl ⟨by rw [tyW, if_neg (BA h15), if_neg (BA h20), hLe]; simp only; rw [← hac, OF, J8 hz, XQ, if_neg (BA h59), if_neg (BA h60), if_neg (BA h69), if_pos h88] <;> rfl, M.fr⟩)))))))))
             ·have h88p := ((E9 h88).imp (fun z => ((E9 z).imp (fun z => (odf z)) (fun z => (odf z)))) (fun z => (odt (C3 z))))
              refine A4 (A0 (yb rfl (yl rfl rfl (M.cell 2 rfl rfl) (ya rfl (B9 rfl rfl rfl) (yb rfl (AT 4 [(2, pg g2), (12, pg g12), (109, .bool ((decide ((n.op.toNat : Int) = (4 : Int))) || (decide ((13 : Int) ≤ (n.op.toNat : Int)))))] (fun w' => Mem w AB [As.blk g12 5 [.int .u8 (z.toNat : Int)], As.own w.heap.size 5 1 (.slice A7 acc.length c7) acc.length (AR HC acc), As.blk g2 70 (I7 n A L.length)] w') ?_ (fun k105 => ?_)))))))
              ·intro w18 M
               refine yb rfl (AT 3 [(2, pg g2), (12, pg g12), (113, .bool (((decide ((n.op.toNat : Int) = (4 : Int))) || (decide ((13 : Int) ≤ (n.op.toNat : Int)))) && (decide ((z.toNat : Int) = (1 : Int)))))] (fun w' => Mem w AB [As.blk g12 5 [.int .u8 (z.toNat : Int)], As.own w.heap.size 5 1 (.slice A7 acc.length c7) acc.length (AR HC acc), As.blk g2 70 (I7 n A L.length)] w') ?_ (fun k110 => ?_))
               ·intro w19 M
                refine yb rfl (AT 8 [(12, pg g12), (122, .bool ((((decide ((n.op.toNat : Int) = (4 : Int))) || (decide ((13 : Int) ≤ (n.op.toNat : Int)))) && (decide ((z.toNat : Int) = (1 : Int)))) || ((decide ((n.op.toNat : Int) = (13 : Int))) && (decide ((z.toNat : Int) = (3 : Int))))))] (fun w' => Mem w AB [As.blk g12 5 [.int .u8 (z.toNat : Int)], As.own w.heap.size 5 1 (.slice A7 acc.length c7) acc.length (AR HC acc), As.blk g2 70 (I7 n A L.length)] w') ?_ (fun k114 => ?_))
                ·intro w20 M
                 refine yb rfl (A1 (A2 (AQ (b := ((((decide ((n.op.toNat : Int) = (4 : Int))) || (decide ((13 : Int) ≤ (n.op.toNat : Int)))) && (decide ((z.toNat : Int) = (1 : Int)))) || ((decide ((n.op.toNat : Int) = (13 : Int))) && (decide ((z.toNat : Int) = (3 : Int)))))) rfl (fun h101 => ?_) (fun h101 => ?_))))
                 ·have h101p := ((EK h101).imp (fun z => (And.intro ((EK (C5 z).1).imp (fun z => (odt z)) (fun z => (odt z))) (odt (C5 z).2))) (fun z => (And.intro (odt (C5 z).1) (odt (C5 z).2))))
                  exact A4 (A0 (yl rfl rfl (M.cell 0 rfl rfl) (yb rfl (yb rfl (A1 (A2 (AD (AJ (AA (BY rfl rfl rfl ⟨by rw [tyW, if_neg (BA h15), if_neg (BA h20), hLe]; simp only; rw [← hac, OF, J8 hz, XQ, if_neg (BA h59), if_neg (BA h60), if_neg (BA h69), if_neg (BA h88), if_pos h101] <;> rfl, M.fr⟩))))))))))
                 ·have h101p := (And.intro ((E9 (CA h101).1).imp (fun z => (And.intro (odf (CA z).1) (odf (CA z).2))) (fun z => (odf z))) ((E9 (CA h101).2).imp (fun z => (odf z)) (fun z => (odf z))))
                  exact AL (AC (A2 (A4 (A0 (yb rfl (yb rfl (A1 (A2 (AD (BY rfl rfl rfl ⟨by rw [tyW, if_neg (BA h15), if_neg (BA h20), hLe]; simp only; rw [← hac, OF, J8 hz, XQ, if_neg (BA h59), if_neg (BA h60), if_neg (BA h69), if_neg (BA h88), if_neg (BA h101)] <;> rfl, M.fr⟩))))))))))
                refine AE (d := 114) (b := (((decide ((n.op.toNat : Int) = (4 : Int))) || (decide ((13 : Int) ≤ (n.op.toNat : Int)))) && (decide ((z.toNat : Int) = (1 : Int))))) rfl (fun h114 => ?_) (fun h114 => ?_)
                ·iterate 4 refine yo rfl ?_
                 exact BZ rfl rfl rfl rfl rfl (BZ rfl rfl rfl rfl rfl (yo rfl (yb rfl (k114 _ _ M ⟨rfl, (by rw [h114]; rfl), trivial⟩))))
                ·refine yd rfl (yp rfl) (ym rfl rfl (M.cell 2 rfl rfl) (yd rfl (B9 rfl rfl rfl) (yd rfl (yp rfl) (AT 3 [(12, pg g12), (114, .bool false), (121, .bool ((decide ((n.op.toNat : Int) = (13 : Int))) && (decide ((z.toNat : Int) = (3 : Int)))))] (fun w' => Mem w AB [As.blk g12 5 [.int .u8 (z.toNat : Int)], As.own w.heap.size 5 1 (.slice A7 acc.length c7) acc.length (AR HC acc), As.blk g2 70 (I7 n A L.length)] w') ?_ (fun k118 => ?_)))))
                 ·intro w21 M
                  exact yb rfl (k114 _ _ M ⟨rfl, (by rw [h114]; rfl), trivial⟩)
                 refine AE (d := 118) (b := (decide ((n.op.toNat : Int) = (13 : Int)))) rfl (fun h118 => ?_) (fun h118 => ?_)
                 ·exact ym rfl rfl (M.cell 0 rfl rfl) (yd rfl (B9 rfl rfl rfl) (yd rfl (yp rfl) (k118 _ _ M ⟨rfl, rfl, (by rw [h118]; rfl), trivial⟩)))
                 ·exact yo rfl (yo rfl (yd rfl (yp rfl) (k118 _ _ M ⟨rfl, rfl, (by rw [h118]; rfl), trivial⟩)))
               refine AE (d := 110) (b := ((decide ((n.op.toNat : Int) = (4 : Int))) || (decide ((13 : Int) ≤ (n.op.toNat : Int))))) rfl (fun h110 => ?_) (fun h110 => ?_)
               ·exact ym rfl rfl (M.cell 0 rfl rfl) (yd rfl (B9 rfl rfl rfl) (yb rfl (k110 _ _ M ⟨rfl, rfl, (by rw [h110]; rfl), trivial⟩)))
               ·exact yo rfl (yo rfl (yb rfl (k110 _ _ M ⟨rfl, rfl, (by rw [h110]; rfl), trivial⟩)))
              refine AE (d := 105) (b := (decide ((n.op.toNat : Int) = (4 : Int)))) rfl (fun h105 => ?_) (fun h105 => ?_)
              ·exact yo rfl (yo rfl (yo rfl (yb rfl (k105 _ _ M ⟨rfl, rfl, (by rw [h105]; rfl), trivial⟩))))
              ·exact yd rfl (yp rfl) (ym rfl rfl (M.cell 2 rfl rfl) (yd rfl (EP rfl rfl rfl) (yb rfl (k105 _ _ M ⟨rfl, rfl, (by rw [h105]; rfl), trivial⟩))))
            refine AE (d := 97) (b := ((decide ((9 : Int) ≤ (n.op.toNat : Int))) && (decide ((n.op.toNat : Int) ≤ (12 : Int))))) rfl (fun h97 => ?_) (fun h97 => ?_)
            ·exact ym rfl rfl (M.cell 0 rfl rfl) (yd rfl (CX rfl rfl rfl) (yb rfl (k97 _ _ M ⟨rfl, rfl, (by rw [h97]; rfl), trivial⟩)))
            ·exact yo rfl (yo rfl (yb rfl (k97 _ _ M ⟨rfl, rfl, (by rw [h97]; rfl), trivial⟩)))
           refine AE (d := 92) (b := (decide ((9 : Int) ≤ (n.op.toNat : Int)))) rfl (fun h92 => ?_) (fun h92 => ?_)
           ·exact yd rfl (yp rfl) (ym rfl rfl (M.cell 2 rfl rfl) (yd rfl (I2 rfl rfl rfl) (yb rfl (k92 _ _ M ⟨rfl, rfl, (by rw [h92]; rfl), trivial⟩))))
           ·exact yo rfl (yo rfl (yo rfl (yb rfl (k92 _ _ M ⟨rfl, rfl, (by rw [h92]; rfl), trivial⟩))))
         refine AE (d := 83) (b := (((decide ((n.op.toNat : Int) = (3 : Int))) || (decide ((n.op.toNat : Int) = (5 : Int)))) || (decide ((n.op.toNat : Int) = (6 : Int))))) rfl (fun h83 => ?_) (fun h83 => ?_)
         ·exact ym rfl rfl (M.cell 0 rfl rfl) (yd rfl (B9 rfl rfl rfl) (yb rfl (k83 _ _ M ⟨rfl, rfl, (by rw [h83]; rfl), trivial⟩)))
         ·exact yo rfl (yo rfl (yb rfl (k83 _ _ M ⟨rfl, rfl, (by rw [h83]; rfl), trivial⟩)))
        refine AE (d := 78) (b := ((decide ((n.op.toNat : Int) = (3 : Int))) || (decide ((n.op.toNat : Int) = (5 : Int))))) rfl (fun h78 => ?_) (fun h78 => ?_)
        ·exact yo rfl (yo rfl (yo rfl (yb rfl (k78 _ _ M ⟨rfl, rfl, (by rw [h78]; rfl), trivial⟩))))
        ·exact yd rfl (yp rfl) (ym rfl rfl (M.cell 2 rfl rfl) (yd rfl (B9 rfl rfl rfl) (yb rfl (k78 _ _ M ⟨rfl, rfl, (by rw [h78]; rfl), trivial⟩))))
       refine AE (d := 73) (b := (decide ((n.op.toNat : Int) = (3 : Int)))) rfl (fun h73 => ?_) (fun h73 => ?_)
       ·exact yo rfl (yo rfl (yo rfl (yb rfl (k73 _ _ M ⟨rfl, rfl, (by rw [h73]; rfl), trivial⟩))))
       ·exact yd rfl (yp rfl) (ym rfl rfl (M.cell 2 rfl rfl) (yd rfl (B9 rfl rfl rfl) (yb rfl (k73 _ _ M ⟨rfl, rfl, (by rw [h73]; rfl), trivial⟩))))
     refine AE (d := 64) (b := (decide ((n.op.toNat : Int) = (7 : Int)))) rfl (fun h64 => ?_) (fun h64 => ?_)
     ·exact yo rfl (yo rfl (yo rfl (yb rfl (k64 _ _ M ⟨rfl, rfl, (by rw [h64]; rfl), trivial⟩))))
     ·exact yd rfl (yp rfl) (ym rfl rfl (M.cell 2 rfl rfl) (yd rfl (B9 rfl rfl rfl) (yb rfl (k64 _ _ M ⟨rfl, rfl, (by rw [h64]; rfl), trivial⟩))))
end Go.Proofs.YtadgfojhjnkliaaGreatDoor
