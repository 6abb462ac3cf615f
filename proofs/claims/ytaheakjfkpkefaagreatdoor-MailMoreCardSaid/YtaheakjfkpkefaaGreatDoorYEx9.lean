/- Lemmas that the last text rests on. Condition: each says its own. -/
import Derived.Test.YtaheakjfkpkefaaGreatDoorYEx8
set_option maxHeartbeats 16000000
set_option maxRecDepth 100000
namespace Go.Proofs.YtaheakjfkpkefaaGreatDoor
open Go.RowKit
open Tryz
abbrev Xq := Xn × Option Addr
def Xq.cells (q : Xq) : List Value := q.1.cells q.2
theorem Xq.len (q : Xq) : q.cells.length = 7 := rfl
def WJ (n : Xn) (A : Option Addr) (k : Nat) : List Value := [.int .u8 (n.op.toNat : Int), .int .u8 (n.vl.kind.toNat : Int), .int .i64 n.vl.int, .bool n.vl.bool, str n.vl.text, str n.nm, .slice A k k]
theorem JS {z : UInt8} {l : List UInt8} (h : l[0]? = some z) : l.headD 0 = z := by cases l <;> simp_all
def NJ (f : Xq → UInt8 × Int) : List Xq → Option Int
 | [] => none
 | q :: r => if (!decide ((f q).2 = 0)) = true then some (f q).2 else NJ f r
def XU (op : UInt8) (ts : List UInt8) (z : UInt8) : UInt8 × Int :=
 if (ts.any (fun t => !decide ((t.toNat : Int) = (z.toNat : Int)))) = true then (0, 90)
 else if ((decide ((op.toNat : Int) = (7 : Int))) || (decide ((op.toNat : Int) = (8 : Int)))) = true then (2, 0)
 else if ((((decide ((op.toNat : Int) = (3 : Int))) || (decide ((op.toNat : Int) = (5 : Int)))) || (decide ((op.toNat : Int) = (6 : Int)))) && (decide ((z.toNat : Int) = (2 : Int)))) = true then (z, 0)
 else if (((decide ((9 : Int) ≤ (op.toNat : Int))) && (decide ((op.toNat : Int) ≤ (12 : Int)))) && (!decide ((z.toNat : Int) = (2 : Int)))) = true then (2, 0)
 else if ((((decide ((op.toNat : Int) = (4 : Int))) || (decide ((13 : Int) ≤ (op.toNat : Int)))) && (decide ((z.toNat : Int) = (1 : Int)))) || ((decide ((op.toNat : Int) = (13 : Int))) && (decide ((z.toNat : Int) = (3 : Int))))) = true then (z, 0)
 else (0, 90)
def PK (op : UInt8) (ts : List UInt8) : UInt8 × Int := XU op ts (ts.headD 0)
def tyW (n : Xn) (vars : List Bd) (f : Xq → UInt8 × Int) (L : List Xq) : UInt8 × Int :=
 if (decide ((n.op.toNat : Int) = (1 : Int))) = true then (n.vl.kind, 0)
 else if (decide ((n.op.toNat : Int) = (2 : Int))) = true then (match ffN (fun (_ : Nat) (b : Bd) => !(decide (b.name = n.nm))) 0 vars with
  | none => (0, 100)
  | some b => (b.v.kind, 0))
 else match NJ f L with
  | some e => (0, e)
  | none => PK n.op (L.map (fun q => (f q).1))
theorem YO : (prog.info? 5).map (fun i => (i.zero, i.size, i.bytes)) = some (some (.int .u8 0), 1, 1) := by kernel_rfl
theorem dK : (prog.info? 5).map (fun i => (i.zero, i.size)) = some (some (.int .u8 0), 1) := by kernel_rfl
theorem JK : (prog.info? 5).map (·.size) = some 1 := by kernel_rfl
theorem eX : (prog.info? 5).map (·.zero) = some (some (.int .u8 0)) := by kernel_rfl
theorem oN (A : Option Addr) (c : Nat) (l : List UInt8) (hl : l.length ≤ 4611686018427387904) (f : FuncId) (cs : List Value) (p : Nat → UInt8 → Bool) (S : Nat → Prop) (J : Nat → World → Prop) (w : World) (hP : PredJ prog f cs (fun b => .int .u8 (b.toNat : Int)) l p S J w) (hR : ∀ w1, Fr S w w1 → Rd w1 A (l.length * 1) (AB SE l)) (hJ : J 0 w) :
 Calls prog 235 #[.slice A l.length c, .func (.func f) #[] cs.toArray] w fun e w' => e = .returned (AA (ixJ p 0 l)) ∧ J (ixN p 0 l) w' ∧ Fr S w w' := by
 refine sx_enter (vs := [_, _]) func235 rfl ntmps235 rfl ?_
 have M : Mem w S [] w := Mem.nil w
 refine srg (AG rfl (sx_seq (AC rfl (DP rfl rfl (AG rfl (sx_block (MX M [7, 1, 0] (fun ze zF e wr mz => ∃ (i : Nat), e = (8, AA (i : Int)) :: ze ∧ zF wr ∧ (i ≤ l.length) ∧ (J i wr) ∧ (ixJ p 0 l = ixJ p i (l.drop i)) ∧ (ixN p 0 l = ixN p i (l.drop i)) ∧ mz = l.length - i) ⟨0, rfl, M, Nat.zero_le _, hJ, rfl, rfl, rfl⟩ ?_)))))))
 rintro _ w1 _ ⟨i, rfl, M, hi, hJ, hr, hn, rfl⟩
 refine srg (BM rfl rfl (nq (sx_seq (AF rfl (fun h9 => ?_) (fun h9 => ?_)))))
 ·have h9p := (odt h9)
  refine sx_skip (qx_seq (sx_seq (sx_block (AC rfl (AG rfl (AC rfl (AV rfl rfl ?_)))))))
  obtain ⟨x, hx⟩ := BZ (l := l) (i := i) A0
  obtain ⟨b_x, o_x, hA_x⟩ := B7 (k := 1) A0 (hR _ M.fr) hx
  refine ya rfl (AP i hA_x rfl rfl rfl (sl rfl) A0) (yl rfl rfl (E5 TV (hR _ M.fr) hA_x hx 0 rfl) (cl 16 rfl (BC rfl rfl rfl hP.fn) (hP.call i x _ hx M.fr hJ) ?_))
  rintro _ w9 ⟨rfl, hJ, hf9⟩
  refine ⟨_, rfl, ?_⟩
  have M : Mem w S [] w9 := Mem.ofFr (M.fr.trans hf9)
  refine nq (AF rfl (fun h16 => ?_) (fun h16 => ?_))
  ·exact AC rfl (yb rfl (gnr (qx_block_ret (qx_then_ret (qx_then_ret (qx_block_ret (qx_then_ret (gr1 rfl ⟨by rw [hr, B0 hx, ixJ, if_pos h16], by rw [hn, B0 hx, ixN, if_pos h16]; exact hJ, M.fr⟩))))))))
  ·refine sx_skip (qx_block_normal (qx_seq (sx_region (C1 rfl rfl (yb rfl (sxl_nil (fag ⟨i + 1, rfl, M, ?_, ?_, ?_, ?_, rfl⟩)))))))
   ·omega
   ·exact hJ
   ·rw [hr, B0 hx, ixJ, AS h16]
   ·rw [hn, B0 hx, ixN, AS h16]
 ·have h9p := (odf h9)
  refine sx_exit (qx_then_exit (qx_then_exit (qx_block_hit (qx_seq (AC rfl (gnr (gr1 rfl ?_)))))))
  obtain rfl : i = l.length := by omega
  exact ⟨by rw [hr, List.drop_length]; rfl, by rw [hn, List.drop_length]; exact hJ, M.fr⟩
theorem l5 (A : Option Addr) (c : Nat) (l : List UInt8) (hl : l.length ≤ 4611686018427387904) (f : FuncId) (cs : List Value) (p : Nat → UInt8 → Bool) (S : Nat → Prop) (J : Nat → World → Prop) (w : World) (hP : PredJ prog f cs (fun b => .int .u8 (b.toNat : Int)) l p S J w) (hR : ∀ w1, Fr S w w1 → Rd w1 A (l.length * 1) (AB SE l)) (hJ : J 0 w) :
 Calls prog 209 #[.slice A l.length c, .func (.func f) #[] cs.toArray] w fun e w' => e = .returned (.bool (decide (0 ≤ ixJ p 0 l))) ∧ J (ixN p 0 l) w' ∧ Fr S w w' := by
 refine sx_enter (vs := [_, _]) func209 rfl ntmps209 rfl ?_
 have M : Mem w S [] w := Mem.nil w
 refine srg (AG rfl (AC rfl (yb rfl (cl 7 rfl (AE rfl rfl call235) (oN A c l hl f cs p S J _ hP hR hJ) ?_))))
 rintro _ w9 ⟨rfl, hJ, hf9⟩
 refine ⟨_, rfl, ?_⟩
 have M : Mem w S [] w9 := Mem.ofFr hf9
 exact J2 rfl rfl (yb rfl (gnr (gr1 rfl ⟨rfl, hJ, M.fr⟩)))
theorem pL (A : Option Addr) (c : Nat) (l : List UInt8) (hl : l.length ≤ 4611686018427387904) (f : FuncId) (cs : List Value) (p : UInt8 → Bool) (w : World) (hP : PredJ prog f cs (fun b => .int .u8 (b.toNat : Int)) l (fun _ => p) AM (fun _ _ => True) w) (hR : Rd w A (l.length * 1) (AB SE l)) :
 Calls prog 209 #[.slice A l.length c, .func (.func f) #[] cs.toArray] w (BN w (.bool (l.any p))) :=
 (l5 A c l hl f cs (fun _ => p) AM (fun _ _ => True) w hP (fun _ hf => hR.fr0 hf) trivial).mono fun _ _ ⟨h1, _, h2⟩ => ⟨by rw [h1, J1], h2⟩
theorem qK (n : Xn) (A : Option Addr) (k g2 : Nat) (b : Bd) (w : World) (hb : Blk w g2 112 (WJ n A k)) :
 Calls prog 208 #[.agg b.cells.toArray, pg g2] w (BN w (.bool (decide (b.name = n.nm)))) := by
 refine BL func208 ntmps208 rfl fun M => srg (DD M rfl rfl fun g2 w1 hg2 M => AG rfl (AC rfl (B2 M 0 rfl rfl rfl (yb rfl (yl rfl rfl (Blk.c (hb.fr0 M.fr) 5 rfl) (ya rfl (CS rfl rfl rfl) (yb rfl ?_)))))))
 exact gnr (gr1 rfl ⟨rfl, M.fr⟩)
theorem qJ (g12 : Nat) (t z : UInt8) (w : World) (hb : Blk w g12 5 [.int .u8 (z.toNat : Int)]) :
 Calls prog 210 #[.int .u8 (t.toNat : Int), pg g12] w (BN w (.bool (!decide ((t.toNat : Int) = (z.toNat : Int))))) := by
 refine BL func210 ntmps210 rfl fun M => srg (AG rfl (AC rfl (yl rfl rfl (Blk.c (hb.fr0 M.fr) 0 rfl) (FT rfl rfl (yb rfl (gnr (gr1 rfl ?_)))))))
 exact ⟨rfl, M.fr⟩
theorem fI (n : Xn) (A : Option Addr) (V : Option Addr) (cv : Nat) (vars : List Bd) (L : List Xq) (f : Xq → UInt8 × Int) (w : World) (hvl : vars.length ≤ 4611686018427387904) (hV : Rd w V (vars.length * 5) (AB Bd.cells vars)) (hl : L.length ≤ 2) (hR : Rd w A (L.length * 7) (AB Xq.cells L)) (hk : ¬ (n.op.toNat : Int) = 1 → ¬ (n.op.toNat : Int) = 2 → 0 < L.length)
 (hT : ∀ q ∈ L, ∀ W, Fr0 w W → Calls prog 191 #[.agg (Xq.cells q).toArray, .slice V vars.length cv] W fun e W' => e = .returned (.tuple #[.int .u8 ((f q).1.toNat : Int), AA (f q).2]) ∧ Fr0 W W') :
 Calls prog 191 #[.agg (WJ n A L.length).toArray, .slice V vars.length cv] w (BN w (.tuple #[.int .u8 ((tyW n vars f L).1.toNat : Int), AA (tyW n vars f L).2])) := by
 refine BL func191 ntmps191 rfl fun M => srg (DB M (wn_none rfl) rfl rfl 112 rfl rfl (WJ n A L.length) rfl fun g2 w1 hg2 M => yb rfl (AG rfl (sx_seq (AC rfl (B2 M 0 rfl rfl rfl (nq ?_))))))
 refine sx_block (srg (C7 rfl rfl (AG rfl (AF rfl (fun h15 => ?_) (fun h15 => ?_)))))
 ·exact AC rfl (yb rfl (B2 M 0 rfl rfl rfl (AV rfl rfl (gnr (qx_block_ret (qx_then_ret (BS rfl rfl rfl ⟨by rw [tyW, if_pos h15], M.fr⟩)))))))
 ·have h15p := (odf h15)
  refine srg (C7 rfl rfl (AG rfl (AF rfl (fun h20 => ?_) (fun h20 => ?_))))
  ·have h20p := (odt h20)
   refine AC rfl (ya rfl (CE (us := []) (vs := [pg g2]) rfl rfl rfl) (cl 24 rfl (AE rfl rfl call159) (QH Bd.cells Bd.len V cv vars A0 208 [pg g2] (fun (_ : Nat) (b : Bd) => !(!(decide (b.name = n.nm)))) AM (fun _ _ => True) _ (G3 call208 (fun b _ w9 hf9 => (qK n A L.length g2 b w9 ((M.blk 0 rfl).fr0 hf9)).mono fun _ _ ⟨h1, h2⟩ => ⟨by rw [h1, Bool.not_not], h2⟩)) (fun _ hf9 => (hV.fr0 M.fr).fr0 hf9) trivial) ?_))
   rintro _ w2 ⟨rfl, _, hfw2⟩
   refine ⟨_, rfl, ?_⟩
   have M := M.step hfw2
   refine AG rfl (sx_seq (AC rfl (BM rfl rfl (nq (AF rfl (fun h26 => ?_) (fun h26 => ?_))))))
   ·have h26p := (odt h26)
    have hvn := MZ (p := fun (_ : Nat) (b : Bd) => !(decide (b.name = n.nm))) h26p
    exact AC rfl (yb rfl (gnr (qx_then_ret (qx_block_ret (qx_then_ret (BS rfl rfl rfl ⟨by rw [tyW, AS h15, if_pos h20, hvn] <;> rfl, M.fr⟩))))))
   ·have h26p := (odf h26)
    obtain ⟨j, b, hj, hb, hff⟩ := N0 (p := fun (_ : Nat) (b : Bd) => !(decide (b.name = n.nm))) h26p
    have hjl : j < vars.length := (List.getElem?_eq_some_iff.1 hb).1
    rw [hj]
    obtain ⟨b_b, o_b, hA_b⟩ := B7 (k := 5) A0 (hV.fr0 M.fr) hb
    refine sx_skip (qx_seq (AC rfl (yb rfl (ya rfl (AP j hA_b rfl rfl rfl (sl rfl) A0) (AV rfl rfl (yl rfl rfl (E5 Bd.len (hV.fr0 M.fr) hA_b hb 1 rfl) (AV rfl rfl (gnr (qx_block_ret ?_)))))))))
    exact qx_then_ret (BS rfl rfl rfl ⟨by rw [tyW, AS h15, if_pos h20, hff] <;> rfl, M.fr⟩)
  ·have h20p := (odf h20)
   refine sx_skip (qx_block_normal (qx_seq (srg (AG rfl (sx_seq (AC rfl (B2 M 0 rfl rfl rfl (DP rfl rfl (yb rfl (sxl_nil ?_))))))))))
   refine qx_seq (sx_block ?_)
   have M := M.nilOwn 5 1
   refine flp [35, 34, 2, 1] (fun ze e wr mz => ∃ (i : Nat) (acc : List UInt8) (A7 : Option Addr) (c7 : Nat), e = (7, .slice A7 acc.length c7) :: (36, AA (i : Int)) :: ze ∧ Mem w AM [As.own w.heap.size 5 1 (.slice A7 acc.length c7) acc.length (AB SE acc), As.blk g2 112 (WJ n A L.length)] wr ∧ (i ≤ L.length) ∧ (acc = (L.take i).map (fun q => (f q).1) ∧ acc.length = i) ∧ (NJ f L = NJ f (L.drop i)) ∧ mz = L.length - i) ⟨0, [], none, 0, rfl, M, Nat.zero_le _, ⟨rfl, rfl⟩, rfl, rfl⟩ ?_
   rintro _ w3 _ ⟨i, acc, A7, c7, rfl, M, hi, hacc, hE, rfl⟩
   refine srg (BM rfl rfl (nq (sx_seq (AF rfl (fun h37 => ?_) (fun h37 => ?_)))))
   ·have h37p := (odt h37)
    refine sx_skip (qx_seq (sx_seq (sx_block (srg ?_))))
    obtain ⟨x, hx⟩ := BZ (l := L) (i := i) A0
    obtain ⟨b_x, o_x, hA_x⟩ := B7 (k := 7) A0 (hR.fr0 M.fr) hx
    refine ya rfl (AP i hA_x rfl rfl rfl (sl rfl) A0) (ya rfl (AH rfl rfl (BB Xq.len (hR.fr0 M.fr) hA_x hx) underlying112 rfl AI) (CO M rfl CR fun g9 w4 hg9 M => C2 M 0 rfl rfl AI rfl fun w5 M => EF (DO M 0 rfl rfl underlying112 AI rfl (yb rfl (DV M 43 rfl rfl call191 (hT x (List.mem_of_getElem? hx) _ M.fr) fun w6 M => ?_)))))
    iterate 5 refine yb rfl ?_
    refine nq (sx_seq (AC rfl (FT rfl rfl (nq (AF rfl (fun h47 => ?_) (fun h47 => ?_))))))
    ·exact AC rfl (AV rfl rfl (gnr (qx_then_ret (qx_block_ret (qx_then_ret (qx_then_ret (qx_block_ret (qx_then_ret (BS rfl rfl rfl ⟨by rw [tyW, AS h15, AS h20, hE, B0 hx, NJ, if_pos h47] <;> rfl, M.fr⟩)))))))))
    ·have h47p := (odt (BJ h47))
     refine sx_skip (qx_seq (sx_region (AV rfl rfl (CU M (wn_none rfl) rfl rfl [.int .u8 ((f x).1.toNat : Int)] ([.int .u8 ((f x).1.toNat : Int)]) rfl rfl rfl rfl underlying244 dK rfl rfl (EZ rfl) rfl fun g51 w7 hg51 M => DC (len' := (acc ++ [((f x).1)]).length) (xs' := AB SE (acc ++ [((f x).1)])) M 2 (wn_none rfl) rfl rfl rfl rfl rfl rfl (M.rdBlk 0 rfl rfl) underlying244 YO rfl AU (BG rfl) (Nat.le_refl _) (Nat.le_refl _) CX (by unfold maxLen; first | omega | (simp only [List.length_append, List.length_cons, List.length_nil]; omega)) (by simp) (by simp [AB, SE]) fun A52 c52 w8 M => yb rfl (sxl_nil (qx_block_normal (qx_seq (sx_region (C1 rfl rfl (yb rfl ?_))))))))))
     refine sxl_nil (fag ⟨i + 1, acc ++ [((f x).1)], A52, c52, rfl, (M.pk [2, 3]), ?_, ?_, ?_, rfl⟩)
     ·omega
     ·exact ⟨by rw [hacc.1, AJ hx, List.map_append]; rfl, by rw [List.length_append, hacc.2]; rfl⟩
     ·rw [hE, B0 hx, NJ, AS h47]
   ·have h37p := (odf h37)
    refine sx_exit (qx_then_exit (qx_then_exit ?_))
    have hiE : i = L.length := by omega
    have hLe : NJ f L = none := by rw [hE, hiE, List.drop_length]; rfl
    have hac : acc = L.map (fun q => (f q).1) := by rw [hacc.1, hiE, List.take_length]
    have hal : acc.length = L.length := by rw [hacc.2, hiE]
    have hLp : 0 < L.length := hk h15p h20p
    refine qx_block_hit (qx_seq (AC rfl ?_))
    obtain ⟨z, hz⟩ := BZ (l := acc) (i := 0) A0
    obtain ⟨b_z, o_z, hA_z⟩ := B7 (k := 1) A0 (M.rdOwn 0 rfl) hz
    refine ya rfl (AP 0 hA_z rfl rfl rfl (sl rfl) A0) (yl rfl rfl (E5 TV (M.rdOwn 0 rfl) hA_z hz 0 rfl) (E4 M (wn_none rfl) rfl rfl 5 rfl [.int .u8 0] eX rfl fun g12 w9 hg12 M => gp1 M 0 rfl rfl rfl JK fun w10 M => nq (sx_seq (AC rfl (ya rfl (CE (us := []) (vs := [pg g12]) rfl rfl rfl) (DV M 59 rfl rfl call209 (pL A7 c7 acc A0 210 [pg g12] (fun t => !decide ((t.toNat : Int) = (z.toNat : Int))) _ (G3 call210 (fun t _ w9 hf9 => qJ g12 t z w9 ((M.blk 0 rfl).fr0 hf9))) (M.rdOwn 1 rfl)) fun w11 M => nq ?_))))))
    refine AF rfl (fun h59 => ?_) (fun h59 => ?_)
    ·exact AC rfl (yb rfl (gnr (qx_then_ret (BS rfl rfl rfl ⟨by rw [tyW, AS h15, AS h20, hLe]; simp only; rw [← hac, PK, JS hz, XU, if_pos h59] <;> rfl, M.fr⟩))))
    ·refine sx_skip (qx_seq (sx_seq (sx_block (AC rfl (B2 M 2 rfl rfl rfl (C7 rfl rfl (yb rfl (fvm M 4 [12, 2] [(68, .bool ((decide ((n.op.toNat : Int) = 7)) || (decide ((n.op.toNat : Int) = 8))))] ?_ (fun k64 => ?_)))))))))
     ·intro w12 M
      refine AG rfl (AF rfl (fun h60 => ?_) (fun h60 => ?_))
      ·have h60p := ((E6 h60).imp (fun z => (odt z)) (fun z => (odt z)))
       exact AC rfl (yb rfl (gnr (qx_block_ret (qx_then_ret (BS rfl rfl rfl ⟨by rw [tyW, AS h15, AS h20, hLe]; simp only; rw [← hac, PK, JS hz, XU, AS h59, if_pos h60] <;> rfl, M.fr⟩)))))
      ·refine AC rfl (B2 M 2 rfl rfl rfl (C7 rfl rfl (yb rfl (fvm M 4 [12, 2] [(77, .bool ((decide ((n.op.toNat : Int) = 3)) || (decide ((n.op.toNat : Int) = 5))))] ?_ (fun k73 => ?_)))))
       ·intro w13 M
        refine yb rfl (fvm M 4 [12, 2] [(82, .bool (((decide ((n.op.toNat : Int) = 3)) || (decide ((n.op.toNat : Int) = 5))) || (decide ((n.op.toNat : Int) = 6))))] ?_ (fun k78 => ?_))
        ·intro w14 M
         refine yb rfl (fvm M 3 [12, 2] [(86, .bool ((((decide ((n.op.toNat : Int) = 3)) || (decide ((n.op.toNat : Int) = 5))) || (decide ((n.op.toNat : Int) = 6))) && (decide ((z.toNat : Int) = 2))))] ?_ (fun k83 => ?_))
         ·intro w15 M
          refine AG rfl (AF rfl (fun h69 => ?_) (fun h69 => ?_))
          ·have h69p := (And.intro ((E6 (BX h69).1).imp (fun z => ((E6 z).imp (fun z => (odt z)) (fun z => (odt z)))) (fun z => (odt z))) (odt (BX h69).2))
           exact srg (B2 M 0 rfl rfl rfl (AV rfl rfl (gnr (qx_block_ret (qx_then_ret (BS rfl rfl rfl ⟨by rw [tyW, AS h15, AS h20, hLe]; simp only; rw [← hac, PK, JS hz, XU, AS h59, AS h60, if_pos h69] <;> rfl, M.fr⟩))))))
          ·have h69p := ((DA h69).imp (fun z => (And.intro (And.intro (odf (BT (BT z).1).1) (odf (BT (BT z).1).2)) (odf (BT z).2))) (fun z => (odf z)))
           refine AC rfl (B2 M 2 rfl rfl rfl (J2 rfl rfl (yb rfl (fvm M 4 [12, 2] [(96, .bool ((decide (9 ≤ (n.op.toNat : Int))) && (decide ((n.op.toNat : Int) ≤ 12))))] ?_ (fun k92 => ?_)))))
           ·intro w16 M
            refine yb rfl (fvm M 3 [12, 2] [(100, .bool (((decide (9 ≤ (n.op.toNat : Int))) && (decide ((n.op.toNat : Int) ≤ 12))) && (!decide ((z.toNat : Int) = 2))))] ?_ (fun k97 => ?_))
            ·intro w17 M
             refine AG rfl (AF rfl (fun h88 => ?_) (fun h88 => ?_))
             ·exact AC rfl (yb rfl (gnr (qx_block_ret (qx_then_ret (BS rfl rfl rfl ⟨by rw [tyW, AS h15, AS h20, hLe]; simp only; rw [← hac, PK, JS hz, XU, AS h59, AS h60, AS h69, if_pos h88] <;> rfl, M.fr⟩)))))
             ·have h88p := ((DA h88).imp (fun z => ((DA z).imp (fun z => (odf z)) (fun z => (odf z)))) (fun z => (odt (BJ z))))
              refine AC rfl (B2 M 2 rfl rfl rfl (C7 rfl rfl (yb rfl (fvm M 4 [12, 2] [(109, .bool ((decide ((n.op.toNat : Int) = 4)) || (decide (13 ≤ (n.op.toNat : Int)))))] ?_ (fun k105 => ?_)))))
              ·intro w18 M
               refine yb rfl (fvm M 3 [12, 2] [(113, .bool (((decide ((n.op.toNat : Int) = 4)) || (decide (13 ≤ (n.op.toNat : Int)))) && (decide ((z.toNat : Int) = 1))))] ?_ (fun k110 => ?_))
               ·intro w19 M
                refine yb rfl (fvm M 8 [12] [(122, .bool ((((decide ((n.op.toNat : Int) = 4)) || (decide (13 ≤ (n.op.toNat : Int)))) && (decide ((z.toNat : Int) = 1))) || ((decide ((n.op.toNat : Int) = 13)) && (decide ((z.toNat : Int) = 3)))))] ?_ (fun k114 => ?_))
                ·intro w20 M
                 refine AG rfl (AF rfl (fun h101 => ?_) (fun h101 => ?_))
                 ·have h101p := ((E6 h101).imp (fun z => (And.intro ((E6 (BX z).1).imp (fun z => (odt z)) (fun z => (odt z))) (odt (BX z).2))) (fun z => (And.intro (odt (BX z).1) (odt (BX z).2))))
                  exact srg (B2 M 0 rfl rfl rfl (AV rfl rfl (gnr (qx_block_ret (qx_then_ret (BS rfl rfl rfl ⟨by rw [tyW, AS h15, AS h20, hLe]; simp only; rw [← hac, PK, JS hz, XU, AS h59, AS h60, AS h69, AS h88, if_pos h101] <;> rfl, M.fr⟩))))))
                 ·have h101p := (And.intro ((DA (BT h101).1).imp (fun z => (And.intro (odf (BT z).1) (odf (BT z).2))) (fun z => (odf z))) ((DA (BT h101).2).imp (fun z => (odf z)) (fun z => (odf z))))
                  exact sx_skip (qx_block_normal (qx_seq (AC rfl (yb rfl (gnr (BS rfl rfl rfl ⟨by rw [tyW, AS h15, AS h20, hLe]; simp only; rw [← hac, PK, JS hz, XU, AS h59, AS h60, AS h69, AS h88, AS h101] <;> rfl, M.fr⟩))))))
                refine AD (d := 114) rfl (fun h114 => ?_) (fun h114 => ?_)
                ·iterate 4 refine yo rfl ?_
                 exact BE rfl rfl rfl rfl rfl (BE rfl rfl rfl rfl rfl (yo rfl (yb rfl (k114 M ⟨rfl, (by rw [h114]; rfl), trivial⟩))))
                ·refine gyq rfl (C3 M 2 rfl rfl rfl (yd rfl (BO rfl rfl rfl) (gyq rfl (fvm M 3 [114, 12] [(121, .bool ((decide ((n.op.toNat : Int) = 13)) && (decide ((z.toNat : Int) = 3))))] ?_ (fun k118 => ?_)))))
                 ·intro w21 M
                  exact yb rfl (k114 M ⟨rfl, (by rw [h114]; rfl), trivial⟩)
                 refine AD (d := 118) rfl (fun h118 => ?_) (fun h118 => ?_)
                 ·exact C3 M 0 rfl rfl rfl (yd rfl (BO rfl rfl rfl) (gyq rfl (k118 M ⟨rfl, rfl, (by rw [h118]; rfl), trivial⟩)))
                 ·exact yo rfl (yo rfl (gyq rfl (k118 M ⟨rfl, rfl, (by rw [h118]; rfl), trivial⟩)))
               refine AD (d := 110) rfl (fun h110 => ?_) (fun h110 => ?_)
               ·exact C3 M 0 rfl rfl rfl (yd rfl (BO rfl rfl rfl) (yb rfl (k110 M ⟨rfl, rfl, (by rw [h110]; rfl), trivial⟩)))
               ·exact yo rfl (yo rfl (yb rfl (k110 M ⟨rfl, rfl, (by rw [h110]; rfl), trivial⟩)))
              refine AD (d := 105) rfl (fun h105 => ?_) (fun h105 => ?_)
              ·exact yo rfl (yo rfl (yo rfl (yb rfl (k105 M ⟨rfl, rfl, (by rw [h105]; rfl), trivial⟩))))
              ·exact gyq rfl (C3 M 2 rfl rfl rfl (yd rfl (GK rfl rfl rfl) (yb rfl (k105 M ⟨rfl, rfl, (by rw [h105]; rfl), trivial⟩))))
            refine AD (d := 97) rfl (fun h97 => ?_) (fun h97 => ?_)
            ·exact C3 M 0 rfl rfl rfl (yd rfl (E1 rfl rfl rfl) (yb rfl (k97 M ⟨rfl, rfl, (by rw [h97]; rfl), trivial⟩)))
            ·exact yo rfl (yo rfl (yb rfl (k97 M ⟨rfl, rfl, (by rw [h97]; rfl), trivial⟩)))
           refine AD (d := 92) rfl (fun h92 => ?_) (fun h92 => ?_)
           ·exact gyq rfl (C3 M 2 rfl rfl rfl (yd rfl (G8 rfl rfl rfl) (yb rfl (k92 M ⟨rfl, rfl, (by rw [h92]; rfl), trivial⟩))))
           ·exact yo rfl (yo rfl (yo rfl (yb rfl (k92 M ⟨rfl, rfl, (by rw [h92]; rfl), trivial⟩))))
         refine AD (d := 83) rfl (fun h83 => ?_) (fun h83 => ?_)
         ·exact C3 M 0 rfl rfl rfl (yd rfl (BO rfl rfl rfl) (yb rfl (k83 M ⟨rfl, rfl, (by rw [h83]; rfl), trivial⟩)))
         ·exact yo rfl (yo rfl (yb rfl (k83 M ⟨rfl, rfl, (by rw [h83]; rfl), trivial⟩)))
        refine AD (d := 78) rfl (fun h78 => ?_) (fun h78 => ?_)
        ·exact yo rfl (yo rfl (yo rfl (yb rfl (k78 M ⟨rfl, rfl, (by rw [h78]; rfl), trivial⟩))))
        ·exact gyq rfl (C3 M 2 rfl rfl rfl (yd rfl (BO rfl rfl rfl) (yb rfl (k78 M ⟨rfl, rfl, (by rw [h78]; rfl), trivial⟩))))
       refine AD (d := 73) rfl (fun h73 => ?_) (fun h73 => ?_)
       ·exact yo rfl (yo rfl (yo rfl (yb rfl (k73 M ⟨rfl, rfl, (by rw [h73]; rfl), trivial⟩))))
       ·exact gyq rfl (C3 M 2 rfl rfl rfl (yd rfl (BO rfl rfl rfl) (yb rfl (k73 M ⟨rfl, rfl, (by rw [h73]; rfl), trivial⟩))))
     refine AD (d := 64) rfl (fun h64 => ?_) (fun h64 => ?_)
     ·exact yo rfl (yo rfl (yo rfl (yb rfl (k64 M ⟨rfl, rfl, (by rw [h64]; rfl), trivial⟩))))
     ·exact gyq rfl (C3 M 2 rfl rfl rfl (yd rfl (BO rfl rfl rfl) (yb rfl (k64 M ⟨rfl, rfl, (by rw [h64]; rfl), trivial⟩))))
end Go.Proofs.YtaheakjfkpkefaaGreatDoor
