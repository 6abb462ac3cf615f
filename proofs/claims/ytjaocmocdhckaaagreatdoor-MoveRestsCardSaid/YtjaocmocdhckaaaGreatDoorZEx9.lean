/- Lemmas that the last text rests on. Condition: each says its own. -/
import Derived.Test.YtjaocmocdhckaaaGreatDoorZEx8
import Derived.Test.YtjaocmocdhckaaaGreatDoorZRu1
set_option maxHeartbeats 16000000
set_option maxRecDepth 100000
namespace Go.Proofs.YtjaocmocdhckaaaGreatDoor
open Go.RowKit
open Tryz
abbrev Xq := Xn × Option Addr
def Xq.cells (q : Xq) : List Value := q.1.cells q.2
theorem Xq.len (q : Xq) : q.cells.length = 7 := rfl
def M6 (n : Xn) (A : Option Addr) (k : Nat) : List Value := [.int .u8 (n.op.toNat : Int), .int .u8 (n.vl.kind.toNat : Int), .int .i64 n.vl.int, .bool n.vl.bool, str n.vl.text, str n.nm, .slice A k k]
theorem KE {z : UInt8} {l : List UInt8} (h : l[0]? = some z) : l.headD 0 = z := by cases l <;> simp_all
def O7 (f : Xq → UInt8 × Int) : List Xq → Option Int
 | [] => none
 | q :: r => if (!decide ((f q).2 = 0)) = true then some (f q).2 else O7 f r
def XX (op : UInt8) (ts : List UInt8) (z : UInt8) : UInt8 × Int :=
 if (ts.any (fun t => !decide ((t.toNat : Int) = (z.toNat : Int)))) = true then (0, 90)
 else if ((decide ((op.toNat : Int) = (7 : Int))) || (decide ((op.toNat : Int) = (8 : Int)))) = true then (2, 0)
 else if ((((decide ((op.toNat : Int) = (3 : Int))) || (decide ((op.toNat : Int) = (5 : Int)))) || (decide ((op.toNat : Int) = (6 : Int)))) && (decide ((z.toNat : Int) = (2 : Int)))) = true then (z, 0)
 else if (((decide ((9 : Int) ≤ (op.toNat : Int))) && (decide ((op.toNat : Int) ≤ (12 : Int)))) && (!decide ((z.toNat : Int) = (2 : Int)))) = true then (2, 0)
 else if ((((decide ((op.toNat : Int) = (4 : Int))) || (decide ((13 : Int) ≤ (op.toNat : Int)))) && (decide ((z.toNat : Int) = (1 : Int)))) || ((decide ((op.toNat : Int) = (13 : Int))) && (decide ((z.toNat : Int) = (3 : Int))))) = true then (z, 0)
 else (0, 90)
def Q4 (op : UInt8) (ts : List UInt8) : UInt8 × Int := XX op ts (ts.headD 0)
def tyW (n : Xn) (vars : List Bd) (f : Xq → UInt8 × Int) (L : List Xq) : UInt8 × Int :=
 if (decide ((n.op.toNat : Int) = (1 : Int))) = true then (n.vl.kind, 0)
 else if (decide ((n.op.toNat : Int) = (2 : Int))) = true then (match ffN (fun (_ : Nat) (b : Bd) => !(decide (b.name = n.nm))) 0 vars with
  | none => (0, 100)
  | some b => (b.v.kind, 0))
 else match O7 f L with
  | some e => (0, e)
  | none => Q4 n.op (L.map (fun q => (f q).1))
theorem YI : (prog.info? 5).map (fun i => (i.zero, i.size, i.bytes)) = some (some (.int .u8 0), 1, 1) := by kernel_rfl
theorem cT : (prog.info? 5).map (fun i => (i.zero, i.size)) = some (some (.int .u8 0), 1) := by kernel_rfl
theorem K5 : (prog.info? 5).map (·.size) = some 1 := by kernel_rfl
theorem dU : (prog.info? 5).map (·.zero) = some (some (.int .u8 0)) := by kernel_rfl
theorem nT (A : Option Addr) (c : Nat) (l : List UInt8) (hl : l.length ≤ 4611686018427387904) (f : FuncId) (cs : List Value) (p : Nat → UInt8 → Bool) (S : Nat → Prop) (J : Nat → World → Prop) (w : World) (hP : PredJ prog f cs (fun b => .int .u8 (b.toNat : Int)) l p S J w) (hR : ∀ w1, Fr S w w1 → Rd w1 A (l.length * 1) (AH SG l)) (hJ : J 0 w) :
 Calls prog 194 #[.slice A l.length c, .func (.func f) #[] cs.toArray] w fun e w' => e = .returned (AJ (ixJ p 0 l)) ∧ J (ixN p 0 l) w' ∧ Fr S w w' := by
 refine BE (vs := [_, _]) func194 rfl ntmps194 rfl ?_
 have M : Mem w S [] w := Mem.nil w
 refine srg (AY rfl (AF (AQ rfl (ya rfl (C3 rfl rfl (sl rfl)) (AY rfl (AS (flp [7, 1, 0] (fun ze e wr mz => ∃ (i : Nat), e = (8, AJ ((i : Nat) : Int)) :: ze ∧ Mem w S [] wr ∧ (i ≤ l.length) ∧ (J i wr) ∧ (ixJ p 0 l = ixJ p i (l.drop i)) ∧ (ixN p 0 l = ixN p i (l.drop i)) ∧ mz = l.length - i) ⟨0, rfl, M, Nat.zero_le _, hJ, rfl, rfl, rfl⟩ ?_)))))))
 rintro _ w1 _ ⟨i, rfl, M, hi, hJ, hr, hn, rfl⟩
 refine srg (CF rfl rfl (nq (AF (AL rfl (fun h9 => ?_) (fun h9 => ?_)))))
 ·have h9p := (odt h9)
  refine AI (AD (AF (AS (AQ rfl (AY rfl (AQ rfl (BM rfl rfl ?_)))))))
  obtain ⟨x, hx⟩ := CC (l := l) (i := i) AM
  obtain ⟨b_x, o_x, hA_x⟩ := BI (k := 1) AM (hR _ M.fr) hx
  refine ya rfl (B1 i hA_x rfl rfl rfl (sl rfl) AM) (yl rfl rfl (DQ U1 (hR _ M.fr) hA_x hx 0 rfl) (cl 16 rfl (BX rfl rfl rfl hP.fn) (hP.call i x _ hx M.fr hJ) ?_))
  rintro _ w9 ⟨rfl, hJ, hf9⟩
  refine ⟨_, rfl, ?_⟩
  have M : Mem w S [] w9 := Mem.ofFr (M.fr.trans hf9)
  refine nq (AL rfl (fun h16 => ?_) (fun h16 => ?_))
  ·exact AQ rfl (yb rfl (gnr (AN (AB (AB (AN (AB (gr1 rfl ⟨by rw [hr, B7 hx, ixJ, if_pos h16], by rw [hn, B7 hx, ixN, if_pos h16]; exact hJ, M.fr⟩))))))))
  ·refine AI (AE (AD (AK (ya rfl (BO rfl rfl rfl AM) (yb rfl (AR (fag ⟨i + 1, rfl, M, ?_, ?_, ?_, ?_, rfl⟩)))))))
   ·omega
   ·exact hJ
   ·rw [hr, B7 hx, ixJ, AT h16]
   ·rw [hn, B7 hx, ixN, AT h16]
 ·have h9p := (odf h9)
  refine BF (AG (AG (AV (AD (AQ rfl (gnr (gr1 rfl ?_)))))))
  obtain rfl : i = l.length := by omega
  exact ⟨by rw [hr, List.drop_length]; rfl, by rw [hn, List.drop_length]; exact hJ, M.fr⟩
theorem jZ (A : Option Addr) (c : Nat) (l : List UInt8) (hl : l.length ≤ 4611686018427387904) (f : FuncId) (cs : List Value) (p : Nat → UInt8 → Bool) (S : Nat → Prop) (J : Nat → World → Prop) (w : World) (hP : PredJ prog f cs (fun b => .int .u8 (b.toNat : Int)) l p S J w) (hR : ∀ w1, Fr S w w1 → Rd w1 A (l.length * 1) (AH SG l)) (hJ : J 0 w) :
 Calls prog 178 #[.slice A l.length c, .func (.func f) #[] cs.toArray] w fun e w' => e = .returned (.bool (decide (0 ≤ ixJ p 0 l))) ∧ J (ixN p 0 l) w' ∧ Fr S w w' := by
 refine BE (vs := [_, _]) func178 rfl ntmps178 rfl ?_
 have M : Mem w S [] w := Mem.nil w
 refine srg (AY rfl (AQ rfl (yb rfl (cl 7 rfl (AP rfl rfl call194) (nT A c l hl f cs p S J _ hP hR hJ) ?_))))
 rintro _ w9 ⟨rfl, hJ, hf9⟩
 refine ⟨_, rfl, ?_⟩
 have M : Mem w S [] w9 := Mem.ofFr hf9
 exact RX rfl rfl (yb rfl (gnr (gr1 rfl ⟨rfl, hJ, M.fr⟩)))
theorem oJ (A : Option Addr) (c : Nat) (l : List UInt8) (hl : l.length ≤ 4611686018427387904) (f : FuncId) (cs : List Value) (p : UInt8 → Bool) (w : World) (hP : PredJ prog f cs (fun b => .int .u8 (b.toNat : Int)) l (fun _ => p) B0 (fun _ _ => True) w) (hR : Rd w A (l.length * 1) (AH SG l)) :
 Calls prog 178 #[.slice A l.length c, .func (.func f) #[] cs.toArray] w (CG w (.bool (l.any p))) :=
 (jZ A c l hl f cs (fun _ => p) B0 (fun _ _ => True) w hP (fun _ hf => hR.fr0 hf) trivial).mono fun _ _ ⟨h1, _, h2⟩ => ⟨by rw [h1, JS], h2⟩
theorem pM (n : Xn) (A : Option Addr) (k g2 : Nat) (b : Bd) (w : World) (hb : Blk w g2 75 (M6 n A k)) :
 Calls prog 177 #[.agg b.cells.toArray, pg g2] w (CG w (.bool (decide (b.name = n.nm)))) := by
 refine C5 func177 ntmps177 rfl fun M => srg (CR M rfl rfl fun g2 w1 hg2 M => AY rfl (AQ rfl (BC M 0 rfl rfl rfl (yb rfl (yl rfl rfl (Blk.c (hb.fr0 M.fr) 5 rfl) (ya rfl (DM rfl rfl rfl) (yb rfl ?_)))))))
 exact gnr (gr1 rfl ⟨rfl, M.fr⟩)
theorem pL (g12 : Nat) (t z : UInt8) (w : World) (hb : Blk w g12 5 [.int .u8 (z.toNat : Int)]) :
 Calls prog 179 #[.int .u8 (t.toNat : Int), pg g12] w (CG w (.bool (!decide ((t.toNat : Int) = (z.toNat : Int))))) := by
 refine C5 func179 ntmps179 rfl fun M => srg (AY rfl (AQ rfl (yl rfl rfl (Blk.c (hb.fr0 M.fr) 0 rfl) (DA rfl rfl (yb rfl (gnr (gr1 rfl ?_)))))))
 exact ⟨rfl, M.fr⟩
theorem eT (n : Xn) (A : Option Addr) (V : Option Addr) (cv : Nat) (vars : List Bd) (L : List Xq) (f : Xq → UInt8 × Int) (w : World) (hvl : vars.length ≤ 4611686018427387904) (hV : Rd w V (vars.length * 5) (AH Bd.cells vars)) (hl : L.length ≤ 2) (hR : Rd w A (L.length * 7) (AH Xq.cells L)) (hk : ¬ (n.op.toNat : Int) = 1 → ¬ (n.op.toNat : Int) = 2 → 0 < L.length)
 (hT : ∀ q ∈ L, ∀ W, Fr0 w W → Calls prog 156 #[.agg (Xq.cells q).toArray, .slice V vars.length cv] W fun e W' => e = .returned (.tuple #[.int .u8 ((f q).1.toNat : Int), AJ (f q).2]) ∧ Fr0 W W') :
 Calls prog 156 #[.agg (M6 n A L.length).toArray, .slice V vars.length cv] w (CG w (.tuple #[.int .u8 ((tyW n vars f L).1.toNat : Int), AJ (tyW n vars f L).2])) := by
 refine C5 func156 ntmps156 rfl fun M => srg (E3 M (AA rfl) rfl rfl 75 rfl rfl (M6 n A L.length) rfl fun g2 w1 hg2 M => yb rfl (AY rfl (AF (AQ rfl (BC M 0 rfl rfl rfl (nq ?_))))))
 refine AS (srg (CN rfl rfl (AY rfl (AL rfl (fun h15 => ?_) (fun h15 => ?_)))))
 ·exact AQ rfl (yb rfl (BC M 0 rfl rfl rfl (BM rfl rfl (gnr (AN (AB (CI rfl rfl rfl ⟨by rw [tyW, if_pos h15], M.fr⟩)))))))
 ·have h15p := (odf h15)
  refine srg (CN rfl rfl (AY rfl (AL rfl (fun h20 => ?_) (fun h20 => ?_))))
  ·have h20p := (odt h20)
   refine AQ rfl (ya rfl (DE (us := []) (vs := [pg g2]) rfl rfl rfl) (cl 24 rfl (AP rfl rfl call126) (QR Bd.cells Bd.len V cv vars AM 177 [pg g2] (fun (_ : Nat) (b : Bd) => !(!(decide (b.name = n.nm)))) B0 (fun _ _ => True) _ (GN call177 (fun b _ w9 hf9 => (pM n A L.length g2 b w9 ((M.blk 0 rfl).fr0 hf9)).mono fun _ _ ⟨h1, h2⟩ => ⟨by rw [h1, Bool.not_not], h2⟩)) (fun _ hf9 => (hV.fr0 M.fr).fr0 hf9) trivial) ?_))
   rintro _ w2 ⟨rfl, _, hfw2⟩
   refine ⟨_, rfl, ?_⟩
   have M := M.step hfw2
   refine AY rfl (AF (AQ rfl (CF rfl rfl (nq (AL rfl (fun h26 => ?_) (fun h26 => ?_))))))
   ·have h26p := (odt h26)
    have hvn := NT (p := fun (_ : Nat) (b : Bd) => !(decide (b.name = n.nm))) h26p
    exact AQ rfl (yb rfl (gnr (AB (AN (AB (CI rfl rfl rfl ⟨by rw [tyW, AT h15, if_pos h20, hvn] <;> rfl, M.fr⟩))))))
   ·have h26p := (odf h26)
    obtain ⟨j, b, hj, hb, hff⟩ := NU (p := fun (_ : Nat) (b : Bd) => !(decide (b.name = n.nm))) h26p
    have hjl : j < vars.length := (List.getElem?_eq_some_iff.1 hb).1
    rw [hj]
    obtain ⟨b_b, o_b, hA_b⟩ := BI (k := 5) AM (hV.fr0 M.fr) hb
    refine AI (AD (AQ rfl (yb rfl (ya rfl (B1 j hA_b rfl rfl rfl (sl rfl) AM) (BM rfl rfl (yl rfl rfl (DQ Bd.len (hV.fr0 M.fr) hA_b hb 1 rfl) (BM rfl rfl (gnr (AN ?_)))))))))
    exact AB (CI rfl rfl rfl ⟨by rw [tyW, AT h15, if_pos h20, hff] <;> rfl, M.fr⟩)
  ·have h20p := (odf h20)
   refine AI (AE (AD (srg (AY rfl (AF (AQ rfl (BC M 0 rfl rfl rfl (ya rfl (C3 rfl rfl (sl rfl)) (yb rfl (AR ?_))))))))))
   refine AD (AS ?_)
   have M := M.nilOwn 5 1
   refine flp [35, 34, 2, 1] (fun ze e wr mz => ∃ (i : Nat) (acc : List UInt8) (A7 : Option Addr) (c7 : Nat), e = (7, .slice A7 acc.length c7) :: (36, AJ ((i : Nat) : Int)) :: ze ∧ Mem w B0 [As.own w.heap.size 5 1 (.slice A7 acc.length c7) acc.length (AH SG acc), As.blk g2 75 (M6 n A L.length)] wr ∧ (i ≤ L.length) ∧ (acc = (L.take i).map (fun q => (f q).1) ∧ acc.length = i) ∧ (O7 f L = O7 f (L.drop i)) ∧ mz = L.length - i) ⟨0, [], none, 0, rfl, M, Nat.zero_le _, ⟨rfl, rfl⟩, rfl, rfl⟩ ?_
   rintro _ w3 _ ⟨i, acc, A7, c7, rfl, M, hi, hacc, hE, rfl⟩
   refine srg (CF rfl rfl (nq (AF (AL rfl (fun h37 => ?_) (fun h37 => ?_)))))
   ·have h37p := (odt h37)
    refine AI (AD (AF (AS (srg ?_))))
    obtain ⟨x, hx⟩ := CC (l := L) (i := i) AM
    obtain ⟨b_x, o_x, hA_x⟩ := BI (k := 7) AM (hR.fr0 M.fr) hx
    refine ya rfl (B1 i hA_x rfl rfl rfl (sl rfl) AM) (ya rfl (AU rfl rfl (BV Xq.len (hR.fr0 M.fr) hA_x hx) underlying75 rfl AZ) (DC M rfl DD fun g9 w4 hg9 M => C4 M 0 rfl rfl AZ rfl fun w5 M => N2 (CW M 0 rfl rfl underlying75 AZ rfl (yb rfl (D4 M 43 rfl rfl call156 (hT x (List.mem_of_getElem? hx) _ M.fr) fun w6 M => ?_)))))
    iterate 5 refine yb rfl ?_
    refine nq (AF (AQ rfl (DA rfl rfl (nq (AL rfl (fun h47 => ?_) (fun h47 => ?_))))))
    ·exact AQ rfl (BM rfl rfl (gnr (AB (AN (AB (AB (AN (AB (CI rfl rfl rfl ⟨by rw [tyW, AT h15, AT h20, hE, B7 hx, O7, if_pos h47] <;> rfl, M.fr⟩)))))))))
    ·have h47p := (odt (BQ h47))
     refine AI (AD (AK (BM rfl rfl (DF M (AA rfl) rfl rfl [.int .u8 ((f x).1.toNat : Int)] ([.int .u8 ((f x).1.toNat : Int)]) rfl rfl rfl rfl underlying196 cT rfl rfl (HE rfl) rfl fun g51 w7 hg51 M => EH (len' := (acc ++ [((f x).1)]).length) (xs' := AH SG (acc ++ [((f x).1)])) M 2 (AA rfl) rfl rfl rfl rfl rfl rfl (M.rdBlk 0 rfl rfl) underlying196 YI rfl BU (BP rfl) (Nat.le_refl _) (Nat.le_refl _) CX (by unfold maxLen; first | omega | (simp only [List.length_append, List.length_cons, List.length_nil]; omega)) (by simp) (by simp [AH, SG]) fun A52 c52 w8 M => yb rfl (AR (AE (AD (AK (ya rfl (BO rfl rfl rfl AM) (yb rfl ?_))))))))))
     refine AR (fag ⟨i + 1, acc ++ [((f x).1)], A52, c52, rfl, (M.pk [2, 3]), ?_, ?_, ?_, rfl⟩)
     ·omega
     ·exact ⟨by rw [hacc.1, B4 hx, List.map_append]; rfl, by rw [List.length_append, hacc.2]; rfl⟩
     ·rw [hE, B7 hx, O7, AT h47]
   ·have h37p := (odf h37)
    refine BF (AG (AG ?_))
    have hiE : i = L.length := by omega
    have hLe : O7 f L = none := by rw [hE, hiE, List.drop_length]; rfl
    have hac : acc = L.map (fun q => (f q).1) := by rw [hacc.1, hiE, List.take_length]
    have hal : acc.length = L.length := by rw [hacc.2, hiE]
    have hLp : 0 < L.length := hk h15p h20p
    refine AV (AD (AQ rfl ?_))
    obtain ⟨z, hz⟩ := CC (l := acc) (i := 0) AM
    obtain ⟨b_z, o_z, hA_z⟩ := BI (k := 1) AM (M.rdOwn 0 rfl) hz
    refine ya rfl (B1 0 hA_z rfl rfl rfl (sl rfl) AM) (yl rfl rfl (DQ U1 (M.rdOwn 0 rfl) hA_z hz 0 rfl) (DJ M (AA rfl) rfl rfl 5 rfl [.int .u8 0] dU rfl fun g12 w9 hg12 M => gp1 M 0 rfl rfl rfl K5 fun w10 M => nq (AF (AQ rfl (ya rfl (DE (us := []) (vs := [pg g12]) rfl rfl rfl) (D4 M 59 rfl rfl call178 (oJ A7 c7 acc AM 179 [pg g12] (fun t => !decide ((t.toNat : Int) = (z.toNat : Int))) _ (GN call179 (fun t _ w9 hf9 => pL g12 t z w9 ((M.blk 0 rfl).fr0 hf9))) (M.rdOwn 1 rfl)) fun w11 M => nq ?_))))))
    refine AL rfl (fun h59 => ?_) (fun h59 => ?_)
    ·exact AQ rfl (yb rfl (gnr (AB (CI rfl rfl rfl ⟨by rw [tyW, AT h15, AT h20, hLe]; simp only; rw [← hac, Q4, KE hz, XX, if_pos h59] <;> rfl, M.fr⟩))))
    ·refine AI (AD (AF (AS (AQ rfl (BC M 2 rfl rfl rfl (CN rfl rfl (yb rfl (fvm M 4 [12, 2] [(68, .bool ((decide ((n.op.toNat : Int) = (7 : Int))) || (decide ((n.op.toNat : Int) = (8 : Int)))))] ?_ (fun k64 => ?_)))))))))
     ·intro w12 M
      refine AY rfl (AL rfl (fun h60 => ?_) (fun h60 => ?_))
      ·have h60p := ((EO h60).imp (fun z => (odt z)) (fun z => (odt z)))
       exact AQ rfl (yb rfl (gnr (AN (AB (CI rfl rfl rfl ⟨by rw [tyW, AT h15, AT h20, hLe]; simp only; rw [← hac, Q4, KE hz, XX, AT h59, if_pos h60] <;> rfl, M.fr⟩)))))
      ·refine AQ rfl (BC M 2 rfl rfl rfl (CN rfl rfl (yb rfl (fvm M 4 [12, 2] [(77, .bool ((decide ((n.op.toNat : Int) = (3 : Int))) || (decide ((n.op.toNat : Int) = (5 : Int)))))] ?_ (fun k73 => ?_)))))
       ·intro w13 M
        refine yb rfl (fvm M 4 [12, 2] [(82, .bool (((decide ((n.op.toNat : Int) = (3 : Int))) || (decide ((n.op.toNat : Int) = (5 : Int)))) || (decide ((n.op.toNat : Int) = (6 : Int)))))] ?_ (fun k78 => ?_))
        ·intro w14 M
         refine yb rfl (fvm M 3 [12, 2] [(86, .bool ((((decide ((n.op.toNat : Int) = (3 : Int))) || (decide ((n.op.toNat : Int) = (5 : Int)))) || (decide ((n.op.toNat : Int) = (6 : Int)))) && (decide ((z.toNat : Int) = (2 : Int)))))] ?_ (fun k83 => ?_))
         ·intro w15 M
          refine AY rfl (AL rfl (fun h69 => ?_) (fun h69 => ?_))
          ·have h69p := (And.intro ((EO (CL h69).1).imp (fun z => ((EO z).imp (fun z => (odt z)) (fun z => (odt z)))) (fun z => (odt z))) (odt (CL h69).2))
           exact srg (BC M 0 rfl rfl rfl (BM rfl rfl (gnr (AN (AB (CI rfl rfl rfl ⟨by rw [tyW, AT h15, AT h20, hLe]; simp only; rw [← hac, Q4, KE hz, XX, AT h59, AT h60, if_pos h69] <;> rfl, M.fr⟩))))))
          ·have h69p := ((DT h69).imp (fun z => (And.intro (And.intro (odf (CP (CP z).1).1) (odf (CP (CP z).1).2)) (odf (CP z).2))) (fun z => (odf z)))
           refine AQ rfl (BC M 2 rfl rfl rfl (RX rfl rfl (yb rfl (fvm M 4 [12, 2] [(96, .bool ((decide ((9 : Int) ≤ (n.op.toNat : Int))) && (decide ((n.op.toNat : Int) ≤ (12 : Int)))))] ?_ (fun k92 => ?_)))))
           ·intro w16 M
            refine yb rfl (fvm M 3 [12, 2] [(100, .bool (((decide ((9 : Int) ≤ (n.op.toNat : Int))) && (decide ((n.op.toNat : Int) ≤ (12 : Int)))) && (!decide ((z.toNat : Int) = (2 : Int)))))] ?_ (fun k97 => ?_))
            ·intro w17 M
             refine AY rfl (AL rfl (fun h88 => ?_) (fun h88 => ?_))
             ·exact AQ rfl (yb rfl (gnr (AN (AB (CI rfl rfl rfl ⟨by rw [tyW, AT h15, AT h20, hLe]; simp only; rw [← hac, Q4, KE hz, XX, AT h59, AT h60, AT h69, if_pos h88] <;> rfl, M.fr⟩)))))
             ·have h88p := ((DT h88).imp (fun z => ((DT z).imp (fun z => (odf z)) (fun z => (odf z)))) (fun z => (odt (BQ z))))
              refine AQ rfl (BC M 2 rfl rfl rfl (CN rfl rfl (yb rfl (fvm M 4 [12, 2] [(109, .bool ((decide ((n.op.toNat : Int) = (4 : Int))) || (decide ((13 : Int) ≤ (n.op.toNat : Int)))))] ?_ (fun k105 => ?_)))))
              ·intro w18 M
               refine yb rfl (fvm M 3 [12, 2] [(113, .bool (((decide ((n.op.toNat : Int) = (4 : Int))) || (decide ((13 : Int) ≤ (n.op.toNat : Int)))) && (decide ((z.toNat : Int) = (1 : Int)))))] ?_ (fun k110 => ?_))
               ·intro w19 M
                refine yb rfl (fvm M 8 [12] [(122, .bool ((((decide ((n.op.toNat : Int) = (4 : Int))) || (decide ((13 : Int) ≤ (n.op.toNat : Int)))) && (decide ((z.toNat : Int) = (1 : Int)))) || ((decide ((n.op.toNat : Int) = (13 : Int))) && (decide ((z.toNat : Int) = (3 : Int))))))] ?_ (fun k114 => ?_))
                ·intro w20 M
                 refine AY rfl (AL rfl (fun h101 => ?_) (fun h101 => ?_))
                 ·have h101p := ((EO h101).imp (fun z => (And.intro ((EO (CL z).1).imp (fun z => (odt z)) (fun z => (odt z))) (odt (CL z).2))) (fun z => (And.intro (odt (CL z).1) (odt (CL z).2))))
                  exact srg (BC M 0 rfl rfl rfl (BM rfl rfl (gnr (AN (AB (CI rfl rfl rfl ⟨by rw [tyW, AT h15, AT h20, hLe]; simp only; rw [← hac, Q4, KE hz, XX, AT h59, AT h60, AT h69, AT h88, if_pos h101] <;> rfl, M.fr⟩))))))
                 ·have h101p := (And.intro ((DT (CP h101).1).imp (fun z => (And.intro (odf (CP z).1) (odf (CP z).2))) (fun z => (odf z))) ((DT (CP h101).2).imp (fun z => (odf z)) (fun z => (odf z))))
                  exact AI (AE (AD (AQ rfl (yb rfl (gnr (CI rfl rfl rfl ⟨by rw [tyW, AT h15, AT h20, hLe]; simp only; rw [← hac, Q4, KE hz, XX, AT h59, AT h60, AT h69, AT h88, AT h101] <;> rfl, M.fr⟩))))))
                refine AO (d := 114) rfl (fun h114 => ?_) (fun h114 => ?_)
                ·iterate 4 refine yo rfl ?_
                 exact CB rfl rfl rfl rfl rfl (CB rfl rfl rfl rfl rfl (yo rfl (yb rfl (k114 M ⟨rfl, (by rw [h114]; rfl), trivial⟩))))
                ·refine gyq rfl (CJ M 2 rfl rfl rfl (yd rfl (BZ rfl rfl rfl) (gyq rfl (fvm M 3 [114, 12] [(121, .bool ((decide ((n.op.toNat : Int) = (13 : Int))) && (decide ((z.toNat : Int) = (3 : Int)))))] ?_ (fun k118 => ?_)))))
                 ·intro w21 M
                  exact yb rfl (k114 M ⟨rfl, (by rw [h114]; rfl), trivial⟩)
                 refine AO (d := 118) rfl (fun h118 => ?_) (fun h118 => ?_)
                 ·exact CJ M 0 rfl rfl rfl (yd rfl (BZ rfl rfl rfl) (gyq rfl (k118 M ⟨rfl, rfl, (by rw [h118]; rfl), trivial⟩)))
                 ·exact yo rfl (yo rfl (gyq rfl (k118 M ⟨rfl, rfl, (by rw [h118]; rfl), trivial⟩)))
               refine AO (d := 110) rfl (fun h110 => ?_) (fun h110 => ?_)
               ·exact CJ M 0 rfl rfl rfl (yd rfl (BZ rfl rfl rfl) (yb rfl (k110 M ⟨rfl, rfl, (by rw [h110]; rfl), trivial⟩)))
               ·exact yo rfl (yo rfl (yb rfl (k110 M ⟨rfl, rfl, (by rw [h110]; rfl), trivial⟩)))
              refine AO (d := 105) rfl (fun h105 => ?_) (fun h105 => ?_)
              ·exact yo rfl (yo rfl (yo rfl (yb rfl (k105 M ⟨rfl, rfl, (by rw [h105]; rfl), trivial⟩))))
              ·exact gyq rfl (CJ M 2 rfl rfl rfl (yd rfl (FQ rfl rfl rfl) (yb rfl (k105 M ⟨rfl, rfl, (by rw [h105]; rfl), trivial⟩))))
            refine AO (d := 97) rfl (fun h97 => ?_) (fun h97 => ?_)
            ·exact CJ M 0 rfl rfl rfl (yd rfl (E4 rfl rfl rfl) (yb rfl (k97 M ⟨rfl, rfl, (by rw [h97]; rfl), trivial⟩)))
            ·exact yo rfl (yo rfl (yb rfl (k97 M ⟨rfl, rfl, (by rw [h97]; rfl), trivial⟩)))
           refine AO (d := 92) rfl (fun h92 => ?_) (fun h92 => ?_)
           ·exact gyq rfl (CJ M 2 rfl rfl rfl (yd rfl (GP rfl rfl rfl) (yb rfl (k92 M ⟨rfl, rfl, (by rw [h92]; rfl), trivial⟩))))
           ·exact yo rfl (yo rfl (yo rfl (yb rfl (k92 M ⟨rfl, rfl, (by rw [h92]; rfl), trivial⟩))))
         refine AO (d := 83) rfl (fun h83 => ?_) (fun h83 => ?_)
         ·exact CJ M 0 rfl rfl rfl (yd rfl (BZ rfl rfl rfl) (yb rfl (k83 M ⟨rfl, rfl, (by rw [h83]; rfl), trivial⟩)))
         ·exact yo rfl (yo rfl (yb rfl (k83 M ⟨rfl, rfl, (by rw [h83]; rfl), trivial⟩)))
        refine AO (d := 78) rfl (fun h78 => ?_) (fun h78 => ?_)
        ·exact yo rfl (yo rfl (yo rfl (yb rfl (k78 M ⟨rfl, rfl, (by rw [h78]; rfl), trivial⟩))))
        ·exact gyq rfl (CJ M 2 rfl rfl rfl (yd rfl (BZ rfl rfl rfl) (yb rfl (k78 M ⟨rfl, rfl, (by rw [h78]; rfl), trivial⟩))))
       refine AO (d := 73) rfl (fun h73 => ?_) (fun h73 => ?_)
       ·exact yo rfl (yo rfl (yo rfl (yb rfl (k73 M ⟨rfl, rfl, (by rw [h73]; rfl), trivial⟩))))
       ·exact gyq rfl (CJ M 2 rfl rfl rfl (yd rfl (BZ rfl rfl rfl) (yb rfl (k73 M ⟨rfl, rfl, (by rw [h73]; rfl), trivial⟩))))
     refine AO (d := 64) rfl (fun h64 => ?_) (fun h64 => ?_)
     ·exact yo rfl (yo rfl (yo rfl (yb rfl (k64 M ⟨rfl, rfl, (by rw [h64]; rfl), trivial⟩))))
     ·exact gyq rfl (CJ M 2 rfl rfl rfl (yd rfl (BZ rfl rfl rfl) (yb rfl (k64 M ⟨rfl, rfl, (by rw [h64]; rfl), trivial⟩))))
end Go.Proofs.YtjaocmocdhckaaaGreatDoor
