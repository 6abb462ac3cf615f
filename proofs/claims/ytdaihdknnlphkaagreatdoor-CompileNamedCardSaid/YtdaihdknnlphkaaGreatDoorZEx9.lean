/- Lemmas that the last text rests on. Condition: each says its own. -/
import Derived.Test.YtdaihdknnlphkaaGreatDoorZEx8
import Derived.Test.YtdaihdknnlphkaaGreatDoorZRu1
set_option maxHeartbeats 16000000
set_option maxRecDepth 100000
namespace Go.Proofs.YtdaihdknnlphkaaGreatDoor
open Go.RowKit
open Tryz
abbrev Xq := Xn × Option Addr
def Xq.cells (q : Xq) : List Value := q.1.cells q.2
theorem Xq.len (q : Xq) : q.cells.length = 7 := rfl
def IL (n : Xn) (A : Option Addr) (k : Nat) : List Value := [.int .u8 (n.op.toNat : Int), .int .u8 (n.vl.kind.toNat : Int), .int .i64 n.vl.int, .bool n.vl.bool, str n.vl.text, str n.nm, .slice A k k]
theorem JW {z : UInt8} {l : List UInt8} (h : l[0]? = some z) : l.headD 0 = z := by cases l <;> simp_all
def NG (f : Xq → UInt8 × Int) : List Xq → Option Int
 | [] => none
 | q :: r => if (!decide ((f q).2 = 0)) = true then some (f q).2 else NG f r
def a8 (op : UInt8) (ts : List UInt8) (z : UInt8) : UInt8 × Int :=
 if (ts.any (fun t => !decide ((t.toNat : Int) = (z.toNat : Int)))) = true then (0, 90)
 else if ((decide ((op.toNat : Int) = (7 : Int))) || (decide ((op.toNat : Int) = (8 : Int)))) = true then (2, 0)
 else if ((((decide ((op.toNat : Int) = (3 : Int))) || (decide ((op.toNat : Int) = (5 : Int)))) || (decide ((op.toNat : Int) = (6 : Int)))) && (decide ((z.toNat : Int) = (2 : Int)))) = true then (z, 0)
 else if (((decide ((9 : Int) ≤ (op.toNat : Int))) && (decide ((op.toNat : Int) ≤ (12 : Int)))) && (!decide ((z.toNat : Int) = (2 : Int)))) = true then (2, 0)
 else if ((((decide ((op.toNat : Int) = (4 : Int))) || (decide ((13 : Int) ≤ (op.toNat : Int)))) && (decide ((z.toNat : Int) = (1 : Int)))) || ((decide ((op.toNat : Int) = (13 : Int))) && (decide ((z.toNat : Int) = (3 : Int))))) = true then (z, 0)
 else (0, 90)
def PU (op : UInt8) (ts : List UInt8) : UInt8 × Int := a8 op ts (ts.headD 0)
def tyW (n : Xn) (vars : List Bd) (f : Xq → UInt8 × Int) (L : List Xq) : UInt8 × Int :=
 if (decide ((n.op.toNat : Int) = (1 : Int))) = true then (n.vl.kind, 0)
 else if (decide ((n.op.toNat : Int) = (2 : Int))) = true then (match ffN (fun (_ : Nat) (b : Bd) => !(decide (b.name = n.nm))) 0 vars with
  | none => (0, 100)
  | some b => (b.v.kind, 0))
 else match NG f L with
  | some e => (0, e)
  | none => PU n.op (L.map (fun q => (f q).1))
theorem bG : (prog.info? 5).map (fun i => (i.zero, i.size, i.bytes)) = some (some (.int .u8 0), 1, 1) := by kernel_rfl
theorem j4 : (prog.info? 5).map (fun i => (i.zero, i.size)) = some (some (.int .u8 0), 1) := by kernel_rfl
theorem l8 : (prog.info? 5).map (·.size) = some 1 := by kernel_rfl
theorem kB : (prog.info? 5).map (·.zero) = some (some (.int .u8 0)) := by kernel_rfl
theorem sV (A : Option Addr) (c : Nat) (l : List UInt8) (hl : l.length ≤ 4611686018427387904) (f : FuncId) (cs : List Value) (p : Nat → UInt8 → Bool) (S : Nat → Prop) (J : Nat → World → Prop) (w : World) (hP : PredJ prog f cs (fun b => .int .u8 (b.toNat : Int)) l p S J w) (hR : ∀ w1, Fr S w w1 → Rd w1 A (l.length * 1) (AS HR l)) (hJ : J 0 w) :
 Calls prog 175 #[.slice A l.length c, .func (.func f) #[] cs.toArray] w fun e w' => e = .returned (.int .i64 (ixJ p 0 l)) ∧ J (ixN p 0 l) w' ∧ Fr S w w' := by
 refine AJ (vs := [_, _]) func175 rfl ntmps175 rfl ?_
 have M : Mem w S [] w := Mem.nil w
 refine A9 (A0 (yb rfl (A4 (A5 (A9 (A9 (A0 (yb rfl (ya rfl (CS rfl rfl (sl rfl)) (yb rfl (A4 (A5 (AV (CL (fun e wr mz => ∃ (i : Nat), e = [(0, .slice A l.length c), (1, .func (.func f) #[] cs.toArray), (7, .int .i64 ((l.length : Nat) : Int)), (8, .int .i64 ((i : Nat) : Int))] ∧ Mem w S [] wr ∧ (i ≤ l.length) ∧ (J i wr) ∧ (ixJ p 0 l = ixJ p i (l.drop i)) ∧ (ixN p 0 l = ixN p i (l.drop i)) ∧ mz = l.length - i) ⟨0, rfl, M, Nat.zero_le _, hJ, rfl, rfl, rfl⟩ ⟨rfl, rfl, rfl, rfl, trivial⟩ ?_))))))))))))))
 rintro _ w1 _ ⟨i, rfl, M, hi, hJ, hr, hn, rfl⟩
 refine A9 (A0 (ya rfl (CB rfl rfl rfl) (A4 (A5 (A9 (AT (b := (decide (((i : Nat) : Int) < ((l.length : Nat) : Int)))) rfl (fun h9 => ?_) (fun h9 => ?_)))))))
 ·have h9p := (odt h9)
  refine AN (A5 (A9 (AV (A9 (A0 (yb rfl (yb rfl (A4 (A5 (A9 (A0 (yb rfl (yb rfl (yb rfl ?_))))))))))))))
  obtain ⟨x, hx⟩ := DA (l := l) (i := i) (by omega)
  obtain ⟨b_x, o_x, hA_x⟩ := C7 (k := 1) (by omega) (hR _ M.fr) hx
  refine ya rfl (BM i hA_x rfl rfl rfl (sl rfl) (by omega)) (yl rfl rfl (EB VH (hR _ M.fr) hA_x hx 0 rfl) (cl 16 rfl (BK rfl rfl rfl hP.fn) (hP.call i x _ hx M.fr hJ) ?_))
  rintro _ w9 ⟨rfl, hJ, hf9⟩
  refine ⟨_, rfl, ?_⟩
  have M : Mem w S [] w9 := Mem.ofFr (M.fr.trans hf9)
  refine A4 (A5 (AT (b := (p i x)) rfl (fun h16 => ?_) (fun h16 => ?_)))
  ·exact A9 (A0 (yb rfl (yb rfl (A4 (A5 (AF (AL (AB (AB (AL (AB (AK rfl rfl ⟨by rw [hr, BH hx, ixJ, if_pos h16], by rw [hn, BH hx, ixN, if_pos h16]; exact hJ, M.fr⟩))))))))))))
  ·refine AN (AC (A5 (A0 (ya rfl (CI rfl rfl rfl (by omega)) (yb rfl (A4 (BF [(0, .slice A l.length c), (1, .func (.func f) #[] cs.toArray), (7, .int .i64 ((l.length : Nat) : Int)), (8, .int .i64 (((i + 1) : Nat) : Int))] (l.length - (i + 1)) ⟨i + 1, rfl, M, ?_, ?_, ?_, ?_, rfl⟩ (by first | omega | (simp <;> omega)) ⟨rfl, rfl, rfl, rfl, trivial⟩)))))))
   ·omega
   ·exact hJ
   ·rw [hr, BH hx, ixJ, if_neg (BE h16)]
   ·rw [hn, BH hx, ixN, if_neg (BE h16)]
 ·have h9p := (odf h9)
  refine C2 (AG (AG (B5 (A5 (A9 (A0 (yb rfl (A4 (A5 (AF (AK rfl rfl ?_)))))))))))
  obtain rfl : i = l.length := by omega
  exact ⟨by rw [hr, List.drop_length]; rfl, by rw [hn, List.drop_length]; exact hJ, M.fr⟩
theorem oV (A : Option Addr) (c : Nat) (l : List UInt8) (hl : l.length ≤ 4611686018427387904) (f : FuncId) (cs : List Value) (p : Nat → UInt8 → Bool) (S : Nat → Prop) (J : Nat → World → Prop) (w : World) (hP : PredJ prog f cs (fun b => .int .u8 (b.toNat : Int)) l p S J w) (hR : ∀ w1, Fr S w w1 → Rd w1 A (l.length * 1) (AS HR l)) (hJ : J 0 w) :
 Calls prog 157 #[.slice A l.length c, .func (.func f) #[] cs.toArray] w fun e w' => e = .returned (.bool (decide (0 ≤ ixJ p 0 l))) ∧ J (ixN p 0 l) w' ∧ Fr S w w' := by
 refine AJ (vs := [_, _]) func157 rfl ntmps157 rfl ?_
 have M : Mem w S [] w := Mem.nil w
 refine A9 (A0 (yb rfl (A4 (A5 (A9 (A0 (yb rfl (yb rfl (cl 7 rfl (AE rfl rfl call175) (sV A c l hl f cs p S J _ hP hR hJ) ?_)))))))))
 rintro _ w9 ⟨rfl, hJ, hf9⟩
 refine ⟨_, rfl, ?_⟩
 have M : Mem w S [] w9 := Mem.ofFr hf9
 exact ya rfl (FG rfl rfl rfl) (yb rfl (A4 (A5 (AF (AK rfl rfl ⟨rfl, hJ, M.fr⟩)))))
theorem tU (A : Option Addr) (c : Nat) (l : List UInt8) (hl : l.length ≤ 4611686018427387904) (f : FuncId) (cs : List Value) (p : UInt8 → Bool) (w : World) (hP : PredJ prog f cs (fun b => .int .u8 (b.toNat : Int)) l (fun _ => p) AD (fun _ _ => True) w) (hR : Rd w A (l.length * 1) (AS HR l)) :
 Calls prog 157 #[.slice A l.length c, .func (.func f) #[] cs.toArray] w fun e w' => e = .returned (.bool (l.any p)) ∧ Fr0 w w' :=
 (oV A c l hl f cs (fun _ => p) AD (fun _ _ => True) w hP (fun _ hf => hR.fr0 hf) trivial).mono fun _ _ ⟨h1, _, h2⟩ => ⟨by rw [h1, KI], h2⟩
theorem v8 (n : Xn) (A : Option Addr) (k g2 : Nat) (b : Bd) (w : World) (hb : Blk w g2 129 (IL n A k)) :
 Calls prog 156 #[.agg b.cells.toArray, pg g2] w fun e w' => e = .returned (.bool (decide (b.name = n.nm))) ∧ Fr0 w w' := by
 refine AJ (vs := [_, _]) func156 rfl ntmps156 rfl ?_
 have M := CN w
 refine A9 (A0 (B4 M (AA rfl) rfl rfl 97 rfl rfl (Bd.cells b) rfl fun g2 w1 hg2 M => yb rfl (A4 (A5 (A9 (A0 (yb rfl (yl rfl rfl (M.cell 0 rfl rfl) (yb rfl (yl rfl rfl (Blk.c (hb.fr0 M.fr) 5 rfl) (ya rfl (DE rfl rfl rfl) (yb rfl (A4 ?_)))))))))))))
 exact A5 (AF (AK rfl rfl ⟨rfl, M.fr⟩))
theorem v7 (g12 : Nat) (t z : UInt8) (w : World) (hb : Blk w g12 5 [.int .u8 (z.toNat : Int)]) :
 Calls prog 158 #[.int .u8 (t.toNat : Int), pg g12] w fun e w' => e = .returned (.bool (!decide ((t.toNat : Int) = (z.toNat : Int)))) ∧ Fr0 w w' := by
 refine AJ (vs := [_, _]) func158 rfl ntmps158 rfl ?_
 have M := CN w
 exact A9 (A0 (yb rfl (A4 (A5 (A9 (A0 (yb rfl (yl rfl rfl (Blk.c (hb.fr0 M.fr) 0 rfl) (ya rfl (CX rfl rfl rfl) (yb rfl (A4 (A5 (AF (AK rfl rfl ⟨rfl, M.fr⟩))))))))))))))
theorem kT (n : Xn) (A : Option Addr) (V : Option Addr) (cv : Nat) (vars : List Bd) (L : List Xq) (f : Xq → UInt8 × Int) (w : World) (hvl : vars.length ≤ 4611686018427387904) (hV : Rd w V (vars.length * 5) (AS Bd.cells vars)) (hl : L.length ≤ 2) (hR : Rd w A (L.length * 7) (AS Xq.cells L)) (hk : ¬ (n.op.toNat : Int) = 1 → ¬ (n.op.toNat : Int) = 2 → 0 < L.length)
 (hT : ∀ q ∈ L, ∀ W, Fr0 w W → Calls prog 131 #[.agg (Xq.cells q).toArray, .slice V vars.length cv] W fun e W' => e = .returned (.tuple #[.int .u8 ((f q).1.toNat : Int), .int .i64 (f q).2]) ∧ Fr0 W W') :
 Calls prog 131 #[.agg (IL n A L.length).toArray, .slice V vars.length cv] w fun e w' => e = .returned (.tuple #[.int .u8 ((tyW n vars f L).1.toNat : Int), .int .i64 (tyW n vars f L).2]) ∧ Fr0 w w' := by
 refine AJ (vs := [_, _]) func131 rfl ntmps131 rfl ?_
 have M := CN w
 refine A9 (A0 (B4 M (AA rfl) rfl rfl 129 rfl rfl (IL n A L.length) rfl fun g2 w1 hg2 M => yb rfl (yb rfl (A4 (A5 (A9 (A9 (A0 (yb rfl (yl rfl rfl (M.cell 0 rfl rfl) (A4 (A5 (AV ?_)))))))))))))
 refine A9 (A0 (ya rfl (BB rfl rfl rfl) (yb rfl (A4 (A5 (AT (b := (decide ((n.op.toNat : Int) = (1 : Int)))) rfl (fun h15 => ?_) (fun h15 => ?_)))))))
 ·have h15p := (odt h15)
  exact A9 (A0 (yb rfl (yb rfl (yl rfl rfl (M.cell 0 rfl rfl) (yb rfl (yb rfl (A4 (A5 (AF (AL (AB (CA rfl rfl rfl ⟨by rw [tyW, if_pos h15], M.fr⟩))))))))))))
 ·have h15p := (odf h15)
  refine A9 (A0 (ya rfl (BB rfl rfl rfl) (yb rfl (A4 (A5 (AT (b := (decide ((n.op.toNat : Int) = (2 : Int)))) rfl (fun h20 => ?_) (fun h20 => ?_)))))))
  ·have h20p := (odt h20)
   refine A9 (A0 (yb rfl (ya rfl (CC (us := []) (vs := [pg g2]) rfl rfl rfl) (cl 24 rfl (AE rfl rfl call104) (WJ Bd.cells Bd.len V cv vars (by omega) 156 [pg g2] (fun (_ : Nat) (b : Bd) => !(!(decide (b.name = n.nm)))) AD (fun _ _ => True) _ (GO call156 (fun b _ w9 hf9 => (v8 n A L.length g2 b w9 ((M.blk 0 rfl).fr0 hf9)).mono fun _ _ ⟨h1, h2⟩ => ⟨by rw [h1, Bool.not_not], h2⟩)) (fun _ hf9 => (hV.fr0 M.fr).fr0 hf9) trivial) ?_))))
   rintro _ w2 ⟨rfl, _, hfw2⟩
   refine ⟨_, rfl, ?_⟩
   have M := M.step hfw2
   refine yb rfl (A4 (A5 (A9 (A9 (A0 (yb rfl (ya rfl (CB rfl rfl rfl) (A4 (A5 (AT (b := (decide ((ixJ (fun (_ : Nat) (b : Bd) => !(!(decide (b.name = n.nm)))) 0 vars) < (0 : Int)))) rfl (fun h26 => ?_) (fun h26 => ?_)))))))))))
   ·have h26p := (odt h26)
    have hvn := PD (p := fun (_ : Nat) (b : Bd) => !(decide (b.name = n.nm))) h26p
    exact A9 (A0 (yb rfl (yb rfl (A4 (A5 (AF (AB (AL (AB (CA rfl rfl rfl ⟨by rw [tyW, if_neg (BE h15), if_pos h20, hvn] <;> rfl, M.fr⟩))))))))))
   ·have h26p := (odf h26)
    obtain ⟨j, b, hj, hb, hff⟩ := PF (p := fun (_ : Nat) (b : Bd) => !(decide (b.name = n.nm))) h26p
    have hjl : j < vars.length := (List.getElem?_eq_some_iff.1 hb).1
    rw [hj]
    obtain ⟨b_b, o_b, hA_b⟩ := C7 (k := 5) (by omega) (hV.fr0 M.fr) hb
    refine AN (A5 (A9 (A0 (yb rfl (yb rfl (ya rfl (BM j hA_b rfl rfl rfl (sl rfl) (by omega)) (yb rfl (yb rfl (yl rfl rfl (EB Bd.len (hV.fr0 M.fr) hA_b hb 1 rfl) (yb rfl (yb rfl (A4 (A5 (AF (AL ?_)))))))))))))))
    exact AB (CA rfl rfl rfl ⟨by rw [tyW, if_neg (BE h15), if_pos h20, hff] <;> rfl, M.fr⟩)
  ·have h20p := (odf h20)
   refine AN (AC (A5 (A9 (A0 (yb rfl (A4 (A5 (A9 (A9 (A0 (yb rfl (yl rfl rfl (M.cell 0 rfl rfl) (ya rfl (CS rfl rfl (sl rfl)) (yb rfl (A4 ?_)))))))))))))))
   refine A5 (AV ?_)
   have M := M.nilOwn 5 1
   refine CL (fun e wr mz => ∃ (i : Nat) (acc : List UInt8) (A7 : Option Addr) (c7 : Nat), e = [(1, .slice V vars.length cv), (2, pg g2), (7, .slice A7 acc.length c7), (34, .slice A L.length L.length), (35, .int .i64 ((L.length : Nat) : Int)), (36, .int .i64 ((i : Nat) : Int))] ∧ Mem w AD [As.own w.heap.size 5 1 (.slice A7 acc.length c7) acc.length (AS HR acc), As.blk g2 129 (IL n A L.length)] wr ∧ (i ≤ L.length) ∧ (acc = (L.take i).map (fun q => (f q).1) ∧ acc.length = i) ∧ (NG f L = NG f (L.drop i)) ∧ mz = L.length - i) ⟨0, [], none, 0, rfl, M, Nat.zero_le _, ⟨rfl, rfl⟩, rfl, rfl⟩ ⟨rfl, rfl, rfl, rfl, rfl, rfl, trivial⟩ ?_
   rintro _ w3 _ ⟨i, acc, A7, c7, rfl, M, hi, hacc, hE, rfl⟩
   refine A9 (A0 (ya rfl (CB rfl rfl rfl) (A4 (A5 (A9 (AT (b := (decide (((i : Nat) : Int) < ((L.length : Nat) : Int)))) rfl (fun h37 => ?_) (fun h37 => ?_)))))))
   ·have h37p := (odt h37)
    refine AN (A5 (A9 (AV (A9 (A0 ?_)))))
    obtain ⟨x, hx⟩ := DA (l := L) (i := i) (by omega)
    obtain ⟨b_x, o_x, hA_x⟩ := C7 (k := 7) (by omega) (hR.fr0 M.fr) hx
    refine ya rfl (BM i hA_x rfl rfl rfl (sl rfl) (by omega)) (ya rfl (AU rfl rfl (DD Xq.len (hR.fr0 M.fr) hA_x hx) underlying129 rfl AR) (BI M (AA rfl) rfl rfl 129 rfl [.int .u8 0, .int .u8 0, .int .i64 0, .bool false, str [], str [], .slice none 0 0] D0 rfl fun g9 w4 hg9 M => B8 (cs' := (Xq.cells x)) M 0 (AA rfl) rfl rfl rfl rfl rfl AR rfl (AI rfl) (AY rfl) rfl fun w5 M => A4 (A5 (A9 (A0 (ya rfl (AU (xs := Xq.cells x) rfl rfl (M.rdBlk 0 rfl rfl) underlying129 rfl AR) (yb rfl (cp M 43 rfl (AE rfl rfl call131) (hT x (List.mem_of_getElem? hx) _ M.fr) fun w6 M => ?_))))))))
    iterate 5 refine yb rfl ?_
    refine A4 (A5 (A9 (A9 (A0 (yb rfl (ya rfl (CX rfl rfl rfl) (A4 (A5 (AT (b := (!decide ((f x).2 = (0 : Int)))) rfl (fun h47 => ?_) (fun h47 => ?_))))))))))
    ·have h47p := (odf (C4 h47))
     exact A9 (A0 (yb rfl (yb rfl (yb rfl (A4 (A5 (AF (AB (AL (AB (AB (AL (AB (CA rfl rfl rfl ⟨by rw [tyW, if_neg (BE h15), if_neg (BE h20), hE, BH hx, NG, if_pos h47] <;> rfl, M.fr⟩))))))))))))))
    ·have h47p := (odt (C5 h47))
     refine AN (A5 (A0 (yb rfl (yb rfl (DC M (AA rfl) rfl rfl [.int .u8 ((f x).1.toNat : Int)] ([.int .u8 ((f x).1.toNat : Int)]) rfl rfl rfl rfl underlying175 j4 rfl rfl (IK rfl) rfl fun g51 w7 hg51 M => J4 (len' := (acc ++ [((f x).1)]).length) (xs' := AS HR (acc ++ [((f x).1)])) M 2 (AA rfl) rfl rfl rfl rfl rfl rfl (M.rdBlk 0 rfl rfl) underlying175 bG rfl (by decide) (AY rfl) (Nat.le_refl _) (Nat.le_refl _) (by first | omega | (simp <;> omega)) (by unfold maxLen; first | omega | (simp only [List.length_append, List.length_cons, List.length_nil]; omega)) (by simp) (by simp [AS, HR]) fun A52 c52 w8 M => yb rfl (A4 (AC (A5 (A0 (ya rfl (CI rfl rfl rfl (by omega)) (yb rfl ?_)))))))))))
     refine A4 (BF [(1, .slice V vars.length cv), (2, pg g2), (7, .slice A52 (acc ++ [((f x).1)]).length c52), (34, .slice A L.length L.length), (35, .int .i64 ((L.length : Nat) : Int)), (36, .int .i64 (((i + 1) : Nat) : Int))] (L.length - (i + 1)) ⟨i + 1, acc ++ [((f x).1)], A52, c52, rfl, (M.pk [2, 3]), ?_, ?_, ?_, rfl⟩ (by first | omega | (simp <;> omega)) ⟨rfl, rfl, rfl, rfl, rfl, rfl, trivial⟩)
     ·omega
     ·exact ⟨by rw [hacc.1, B3 hx, List.map_append]; rfl, by rw [List.length_append, hacc.2]; rfl⟩
     ·rw [hE, BH hx, NG, if_neg (BE h47)]
   ·have h37p := (odf h37)
    refine C2 (AG (AG ?_))
    have hiE : i = L.length := by omega
    have hLe : NG f L = none := by rw [hE, hiE, List.drop_length]; rfl
    have hac : acc = L.map (fun q => (f q).1) := by rw [hacc.1, hiE, List.take_length]
    have hal : acc.length = L.length := by rw [hacc.2, hiE]
    have hLp : 0 < L.length := hk h15p h20p
    refine B5 (A5 (A9 (A0 (yb rfl ?_))))
    obtain ⟨z, hz⟩ := DA (l := acc) (i := 0) (by omega)
    obtain ⟨b_z, o_z, hA_z⟩ := C7 (k := 1) (by omega) (M.rdOwn 0 rfl) hz
    refine ya rfl (BM 0 hA_z rfl rfl rfl (sl rfl) (by omega)) (yl rfl rfl (EB VH (M.rdOwn 0 rfl) hA_z hz 0 rfl) (BI M (AA rfl) rfl rfl 5 rfl [.int .u8 0] kB rfl fun g12 w9 hg12 M => BP (cs' := [.int .u8 (z.toNat : Int)]) M 0 (AA rfl) rfl rfl rfl rfl rfl rfl rfl l8 (AZ rfl) rfl fun w10 M => A4 (A5 (A9 (A9 (A0 (yb rfl (ya rfl (CC (us := []) (vs := [pg g12]) rfl rfl rfl) (cp M 59 rfl (AE rfl rfl call157) (tU A7 c7 acc (by omega) 158 [pg g12] (fun t => !decide ((t.toNat : Int) = (z.toNat : Int))) _ (GO call158 (fun t _ w9 hf9 => v7 g12 t z w9 ((M.blk 0 rfl).fr0 hf9))) (M.rdOwn 1 rfl)) fun w11 M => A4 (A5 ?_))))))))))
    refine AT (b := (acc.any (fun t => !decide ((t.toNat : Int) = (z.toNat : Int))))) rfl (fun h59 => ?_) (fun h59 => ?_)
    ·exact A9 (A0 (yb rfl (yb rfl (A4 (A5 (AF (AB (CA rfl rfl rfl ⟨by rw [tyW, if_neg (BE h15), if_neg (BE h20), hLe]; simp only; rw [← hac, PU, JW hz, a8, if_pos h59] <;> rfl, M.fr⟩))))))))
    ·refine AN (A5 (A9 (AV (A9 (A0 (yb rfl (yl rfl rfl (M.cell 2 rfl rfl) (ya rfl (BB rfl rfl rfl) (yb rfl (AX 4 [(2, pg g2), (12, pg g12), (68, .bool ((decide ((n.op.toNat : Int) = (7 : Int))) || (decide ((n.op.toNat : Int) = (8 : Int)))))] (fun w' => Mem w AD [As.blk g12 5 [.int .u8 (z.toNat : Int)], As.own w.heap.size 5 1 (.slice A7 acc.length c7) acc.length (AS HR acc), As.blk g2 129 (IL n A L.length)] w') ?_ (fun k64 => ?_)))))))))))
     ·intro w12 M
      refine yb rfl (A4 (A5 (AT (b := ((decide ((n.op.toNat : Int) = (7 : Int))) || (decide ((n.op.toNat : Int) = (8 : Int))))) rfl (fun h60 => ?_) (fun h60 => ?_))))
      ·have h60p := ((EL h60).imp (fun z => (odt z)) (fun z => (odt z)))
       exact A9 (A0 (yb rfl (yb rfl (A4 (A5 (AF (AL (AB (CA rfl rfl rfl ⟨by rw [tyW, if_neg (BE h15), if_neg (BE h20), hLe]; simp only; rw [← hac, PU, JW hz, a8, if_neg (BE h59), if_pos h60] <;> rfl, M.fr⟩)))))))))
      ·have h60p := (And.intro (odf (CE h60).1) (odf (CE h60).2))
       refine A9 (A0 (yb rfl (yl rfl rfl (M.cell 2 rfl rfl) (ya rfl (BB rfl rfl rfl) (yb rfl (AX 4 [(2, pg g2), (12, pg g12), (77, .bool ((decide ((n.op.toNat : Int) = (3 : Int))) || (decide ((n.op.toNat : Int) = (5 : Int)))))] (fun w' => Mem w AD [As.blk g12 5 [.int .u8 (z.toNat : Int)], As.own w.heap.size 5 1 (.slice A7 acc.length c7) acc.length (AS HR acc), As.blk g2 129 (IL n A L.length)] w') ?_ (fun k73 => ?_)))))))
       ·intro w13 M
        refine yb rfl (AX 4 [(2, pg g2), (12, pg g12), (82, .bool (((decide ((n.op.toNat : Int) = (3 : Int))) || (decide ((n.op.toNat : Int) = (5 : Int)))) || (decide ((n.op.toNat : Int) = (6 : Int)))))] (fun w' => Mem w AD [As.blk g12 5 [.int .u8 (z.toNat : Int)], As.own w.heap.size 5 1 (.slice A7 acc.length c7) acc.length (AS HR acc), As.blk g2 129 (IL n A L.length)] w') ?_ (fun k78 => ?_))
        ·intro w14 M
         refine yb rfl (AX 3 [(2, pg g2), (12, pg g12), (86, .bool ((((decide ((n.op.toNat : Int) = (3 : Int))) || (decide ((n.op.toNat : Int) = (5 : Int)))) || (decide ((n.op.toNat : Int) = (6 : Int)))) && (decide ((z.toNat : Int) = (2 : Int)))))] (fun w' => Mem w AD [As.blk g12 5 [.int .u8 (z.toNat : Int)], As.own w.heap.size 5 1 (.slice A7 acc.length c7) acc.length (AS HR acc), As.blk g2 129 (IL n A L.length)] w') ?_ (fun k83 => ?_))
         ·intro w15 M
          refine yb rfl (A4 (A5 (AT (b := ((((decide ((n.op.toNat : Int) = (3 : Int))) || (decide ((n.op.toNat : Int) = (5 : Int)))) || (decide ((n.op.toNat : Int) = (6 : Int)))) && (decide ((z.toNat : Int) = (2 : Int))))) rfl (fun h69 => ?_) (fun h69 => ?_))))
          ·have h69p := (And.intro ((EL (C9 h69).1).imp (fun z => ((EL z).imp (fun z => (odt z)) (fun z => (odt z)))) (fun z => (odt z))) (odt (C9 h69).2))
           exact A9 (A0 (yl rfl rfl (M.cell 0 rfl rfl) (yb rfl (yb rfl (A4 (A5 (AF (AL (AB (CA rfl rfl rfl ⟨by rw [tyW, if_neg (BE h15), if_neg (BE h20), hLe]; simp only; rw [← hac, PU, JW hz, a8, if_neg (BE h59), if_neg (BE h60), if_pos h69] <;> rfl, M.fr⟩))))))))))
          ·have h69p := ((EH h69).imp (fun z => (And.intro (And.intro (odf (CE (CE z).1).1) (odf (CE (CE z).1).2)) (odf (CE z).2))) (fun z => (odf z)))
           refine A9 (A0 (yb rfl (yl rfl rfl (M.cell 2 rfl rfl) (ya rfl (FG rfl rfl rfl) (yb rfl (AX 4 [(2, pg g2), (12, pg g12), (96, .bool ((decide ((9 : Int) ≤ (n.op.toNat : Int))) && (decide ((n.op.toNat : Int) ≤ (12 : Int)))))] (fun w' => Mem w AD [As.blk g12 5 [.int .u8 (z.toNat : Int)], As.own w.heap.size 5 1 (.slice A7 acc.length c7) acc.length (AS HR acc), As.blk g2 129 (IL n A L.length)] w') ?_ (fun k92 => ?_)))))))
           ·intro w16 M
            refine yb rfl (AX 3 [(2, pg g2), (12, pg g12), (100, .bool (((decide ((9 : Int) ≤ (n.op.toNat : Int))) && (decide ((n.op.toNat : Int) ≤ (12 : Int)))) && (!decide ((z.toNat : Int) = (2 : Int)))))] (fun w' => Mem w AD [As.blk g12 5 [.int .u8 (z.toNat : Int)], As.own w.heap.size 5 1 (.slice A7 acc.length c7) acc.length (AS HR acc), As.blk g2 129 (IL n A L.length)] w') ?_ (fun k97 => ?_))
            ·intro w17 M
             refine yb rfl (A4 (A5 (AT (b := (((decide ((9 : Int) ≤ (n.op.toNat : Int))) && (decide ((n.op.toNat : Int) ≤ (12 : Int)))) && (!decide ((z.toNat : Int) = (2 : Int))))) rfl (fun h88 => ?_) (fun h88 => ?_))))
             ·have h88p := (And.intro (And.intro (odt (C9 (C9 h88).1).1) (odt (C9 (C9 h88).1).2)) (odf (C4 (C9 h88).2)))
              exact A9 (A0 (yb rfl (yb rfl (A4 (A5 (AF (AL (AB (CA rfl rfl rfl ⟨by rw [tyW, if_neg (BE h15), if_neg (BE h20), hLe]; simp only; rw [← hac, PU, JW hz, a8, if_neg (BE h59), if_neg (BE h60), if_neg (BE h69), if_pos h88] <;> rfl, M.fr⟩)))))))))
             ·have h88p := ((EH h88).imp (fun z => ((EH z).imp (fun z => (odf z)) (fun z => (odf z)))) (fun z => (odt (C5 z))))
              refine A9 (A0 (yb rfl (yl rfl rfl (M.cell 2 rfl rfl) (ya rfl (BB rfl rfl rfl) (yb rfl (AX 4 [(2, pg g2), (12, pg g12), (109, .bool ((decide ((n.op.toNat : Int) = (4 : Int))) || (decide ((13 : Int) ≤ (n.op.toNat : Int)))))] (fun w' => Mem w AD [As.blk g12 5 [.int .u8 (z.toNat : Int)], As.own w.heap.size 5 1 (.slice A7 acc.length c7) acc.length (AS HR acc), As.blk g2 129 (IL n A L.length)] w') ?_ (fun k105 => ?_)))))))
              ·intro w18 M
               refine yb rfl (AX 3 [(2, pg g2), (12, pg g12), (113, .bool (((decide ((n.op.toNat : Int) = (4 : Int))) || (decide ((13 : Int) ≤ (n.op.toNat : Int)))) && (decide ((z.toNat : Int) = (1 : Int)))))] (fun w' => Mem w AD [As.blk g12 5 [.int .u8 (z.toNat : Int)], As.own w.heap.size 5 1 (.slice A7 acc.length c7) acc.length (AS HR acc), As.blk g2 129 (IL n A L.length)] w') ?_ (fun k110 => ?_))
               ·intro w19 M
                refine yb rfl (AX 8 [(12, pg g12), (122, .bool ((((decide ((n.op.toNat : Int) = (4 : Int))) || (decide ((13 : Int) ≤ (n.op.toNat : Int)))) && (decide ((z.toNat : Int) = (1 : Int)))) || ((decide ((n.op.toNat : Int) = (13 : Int))) && (decide ((z.toNat : Int) = (3 : Int))))))] (fun w' => Mem w AD [As.blk g12 5 [.int .u8 (z.toNat : Int)], As.own w.heap.size 5 1 (.slice A7 acc.length c7) acc.length (AS HR acc), As.blk g2 129 (IL n A L.length)] w') ?_ (fun k114 => ?_))
                ·intro w20 M
                 refine yb rfl (A4 (A5 (AT (b := ((((decide ((n.op.toNat : Int) = (4 : Int))) || (decide ((13 : Int) ≤ (n.op.toNat : Int)))) && (decide ((z.toNat : Int) = (1 : Int)))) || ((decide ((n.op.toNat : Int) = (13 : Int))) && (decide ((z.toNat : Int) = (3 : Int)))))) rfl (fun h101 => ?_) (fun h101 => ?_))))
                 ·have h101p := ((EL h101).imp (fun z => (And.intro ((EL (C9 z).1).imp (fun z => (odt z)) (fun z => (odt z))) (odt (C9 z).2))) (fun z => (And.intro (odt (C9 z).1) (odt (C9 z).2))))
                  exact A9 (A0 (yl rfl rfl (M.cell 0 rfl rfl) (yb rfl (yb rfl (A4 (A5 (AF (AL (AB (CA rfl rfl rfl ⟨by rw [tyW, if_neg (BE h15), if_neg (BE h20), hLe]; simp only; rw [← hac, PU, JW hz, a8, if_neg (BE h59), if_neg (BE h60), if_neg (BE h69), if_neg (BE h88), if_pos h101] <;> rfl, M.fr⟩))))))))))
                 ·have h101p := (And.intro ((EH (CE h101).1).imp (fun z => (And.intro (odf (CE z).1) (odf (CE z).2))) (fun z => (odf z))) ((EH (CE h101).2).imp (fun z => (odf z)) (fun z => (odf z))))
                  exact AN (AC (A5 (A9 (A0 (yb rfl (yb rfl (A4 (A5 (AF (CA rfl rfl rfl ⟨by rw [tyW, if_neg (BE h15), if_neg (BE h20), hLe]; simp only; rw [← hac, PU, JW hz, a8, if_neg (BE h59), if_neg (BE h60), if_neg (BE h69), if_neg (BE h88), if_neg (BE h101)] <;> rfl, M.fr⟩))))))))))
                refine AM (d := 114) (b := (((decide ((n.op.toNat : Int) = (4 : Int))) || (decide ((13 : Int) ≤ (n.op.toNat : Int)))) && (decide ((z.toNat : Int) = (1 : Int))))) rfl (fun h114 => ?_) (fun h114 => ?_)
                ·iterate 4 refine yo rfl ?_
                 exact CO rfl rfl rfl rfl rfl (CO rfl rfl rfl rfl rfl (yo rfl (yb rfl (k114 _ _ M ⟨rfl, (by rw [h114]; rfl), trivial⟩))))
                ·refine yd rfl (yp rfl) (ym rfl rfl (M.cell 2 rfl rfl) (yd rfl (BB rfl rfl rfl) (yd rfl (yp rfl) (AX 3 [(12, pg g12), (114, .bool false), (121, .bool ((decide ((n.op.toNat : Int) = (13 : Int))) && (decide ((z.toNat : Int) = (3 : Int)))))] (fun w' => Mem w AD [As.blk g12 5 [.int .u8 (z.toNat : Int)], As.own w.heap.size 5 1 (.slice A7 acc.length c7) acc.length (AS HR acc), As.blk g2 129 (IL n A L.length)] w') ?_ (fun k118 => ?_)))))
                 ·intro w21 M
                  exact yb rfl (k114 _ _ M ⟨rfl, (by rw [h114]; rfl), trivial⟩)
                 refine AM (d := 118) (b := (decide ((n.op.toNat : Int) = (13 : Int)))) rfl (fun h118 => ?_) (fun h118 => ?_)
                 ·exact ym rfl rfl (M.cell 0 rfl rfl) (yd rfl (BB rfl rfl rfl) (yd rfl (yp rfl) (k118 _ _ M ⟨rfl, rfl, (by rw [h118]; rfl), trivial⟩)))
                 ·exact yo rfl (yo rfl (yd rfl (yp rfl) (k118 _ _ M ⟨rfl, rfl, (by rw [h118]; rfl), trivial⟩)))
               refine AM (d := 110) (b := ((decide ((n.op.toNat : Int) = (4 : Int))) || (decide ((13 : Int) ≤ (n.op.toNat : Int))))) rfl (fun h110 => ?_) (fun h110 => ?_)
               ·exact ym rfl rfl (M.cell 0 rfl rfl) (yd rfl (BB rfl rfl rfl) (yb rfl (k110 _ _ M ⟨rfl, rfl, (by rw [h110]; rfl), trivial⟩)))
               ·exact yo rfl (yo rfl (yb rfl (k110 _ _ M ⟨rfl, rfl, (by rw [h110]; rfl), trivial⟩)))
              refine AM (d := 105) (b := (decide ((n.op.toNat : Int) = (4 : Int)))) rfl (fun h105 => ?_) (fun h105 => ?_)
              ·exact yo rfl (yo rfl (yo rfl (yb rfl (k105 _ _ M ⟨rfl, rfl, (by rw [h105]; rfl), trivial⟩))))
              ·exact yd rfl (yp rfl) (ym rfl rfl (M.cell 2 rfl rfl) (yd rfl (FG rfl rfl rfl) (yb rfl (k105 _ _ M ⟨rfl, rfl, (by rw [h105]; rfl), trivial⟩))))
            refine AM (d := 97) (b := ((decide ((9 : Int) ≤ (n.op.toNat : Int))) && (decide ((n.op.toNat : Int) ≤ (12 : Int))))) rfl (fun h97 => ?_) (fun h97 => ?_)
            ·exact ym rfl rfl (M.cell 0 rfl rfl) (yd rfl (CX rfl rfl rfl) (yb rfl (k97 _ _ M ⟨rfl, rfl, (by rw [h97]; rfl), trivial⟩)))
            ·exact yo rfl (yo rfl (yb rfl (k97 _ _ M ⟨rfl, rfl, (by rw [h97]; rfl), trivial⟩)))
           refine AM (d := 92) (b := (decide ((9 : Int) ≤ (n.op.toNat : Int)))) rfl (fun h92 => ?_) (fun h92 => ?_)
           ·exact yd rfl (yp rfl) (ym rfl rfl (M.cell 2 rfl rfl) (yd rfl (K5 rfl rfl rfl) (yb rfl (k92 _ _ M ⟨rfl, rfl, (by rw [h92]; rfl), trivial⟩))))
           ·exact yo rfl (yo rfl (yo rfl (yb rfl (k92 _ _ M ⟨rfl, rfl, (by rw [h92]; rfl), trivial⟩))))
         refine AM (d := 83) (b := (((decide ((n.op.toNat : Int) = (3 : Int))) || (decide ((n.op.toNat : Int) = (5 : Int)))) || (decide ((n.op.toNat : Int) = (6 : Int))))) rfl (fun h83 => ?_) (fun h83 => ?_)
         ·exact ym rfl rfl (M.cell 0 rfl rfl) (yd rfl (BB rfl rfl rfl) (yb rfl (k83 _ _ M ⟨rfl, rfl, (by rw [h83]; rfl), trivial⟩)))
         ·exact yo rfl (yo rfl (yb rfl (k83 _ _ M ⟨rfl, rfl, (by rw [h83]; rfl), trivial⟩)))
        refine AM (d := 78) (b := ((decide ((n.op.toNat : Int) = (3 : Int))) || (decide ((n.op.toNat : Int) = (5 : Int))))) rfl (fun h78 => ?_) (fun h78 => ?_)
        ·exact yo rfl (yo rfl (yo rfl (yb rfl (k78 _ _ M ⟨rfl, rfl, (by rw [h78]; rfl), trivial⟩))))
        ·exact yd rfl (yp rfl) (ym rfl rfl (M.cell 2 rfl rfl) (yd rfl (BB rfl rfl rfl) (yb rfl (k78 _ _ M ⟨rfl, rfl, (by rw [h78]; rfl), trivial⟩))))
       refine AM (d := 73) (b := (decide ((n.op.toNat : Int) = (3 : Int)))) rfl (fun h73 => ?_) (fun h73 => ?_)
       ·exact yo rfl (yo rfl (yo rfl (yb rfl (k73 _ _ M ⟨rfl, rfl, (by rw [h73]; rfl), trivial⟩))))
       ·exact yd rfl (yp rfl) (ym rfl rfl (M.cell 2 rfl rfl) (yd rfl (BB rfl rfl rfl) (yb rfl (k73 _ _ M ⟨rfl, rfl, (by rw [h73]; rfl), trivial⟩))))
     refine AM (d := 64) (b := (decide ((n.op.toNat : Int) = (7 : Int)))) rfl (fun h64 => ?_) (fun h64 => ?_)
     ·exact yo rfl (yo rfl (yo rfl (yb rfl (k64 _ _ M ⟨rfl, rfl, (by rw [h64]; rfl), trivial⟩))))
     ·exact yd rfl (yp rfl) (ym rfl rfl (M.cell 2 rfl rfl) (yd rfl (BB rfl rfl rfl) (yb rfl (k64 _ _ M ⟨rfl, rfl, (by rw [h64]; rfl), trivial⟩))))
end Go.Proofs.YtdaihdknnlphkaaGreatDoor
