/- Lemmas that the last text rests on. Condition: each says its own. -/
import Derived.Test.YtaheakjfkpkefaaGreatDoorYMw8
set_option maxHeartbeats 16000000
set_option maxRecDepth 100000
namespace Go.Proofs.YtaheakjfkpkefaaGreatDoor
open Go.RowKit
open Tryz
def onP (l : List Tk) (q : List UInt8) : Bool := l.any fun t => decide (t.on = q)
theorem r4 {l l' : List Tk} {L : List (List UInt8 × Value)} {y : Tk} (h : ∀ q, (BP L q).getD (.bool false) = .bool (onP l q)) (hl : l' = l ++ [y]) : ∀ q, (BP (CK L y.on (.bool true)) q).getD (.bool false) = .bool (onP l' q) := fun q => by
 rw [hl, E8]
 unfold onP
 rw [List.any_append]
 by_cases hq : q = y.on
 ·rw [if_pos hq, hq]; simp
 ·have : ¬ y.on = q := fun e => hq e.symm
  rw [if_neg hq, h q]; unfold onP; simp [this]
def qW (i : In) (j : Nat) : Int := ((i.toks[j - 1]?).map (·.id)).getD 0
theorem eJ (l : List Tk) (g10 g79 : Nat) (L : List (List UInt8 × Value)) (f : List UInt8) (w : World) (hb : Blk w g10 92 [.map (some g79)]) (hm : Mp w g79 L) (hon : ∀ q, (BP L q).getD (.bool false) = .bool (onP l q)) :
 Calls prog 34 #[str f, pg g10] w (BN w (.bool (!(onP l f)))) := by
 refine BL func34 ntmps34 rfl fun M => srg (AG rfl (srg (yl rfl rfl (Blk.c (hb.fr0 M.fr) 0 rfl) (yb rfl (ya rfl (BD rfl rfl rfl underlying92 underlying9 LS (Mp.fr hm M.fr (fun hh => hh)) (hon f)) (AV rfl rfl (gnr ?_)))))))
 exact gr1 rfl ⟨rfl, M.fr⟩
theorem eH (A : Option Addr) (c : Nat) (l : List (List UInt8)) (hl : l.length ≤ 4611686018427387904) (f : FuncId) (cs : List Value) (p : Nat → (List UInt8) → Bool) (S : Nat → Prop) (J : Nat → World → Prop) (w : World) (hP : PredJ prog f cs str l p S J w) (hR : ∀ w1, Fr S w w1 → Rd w1 A (l.length * 1) (AB BK l)) (hJ : J 0 w) :
 Calls prog 33 #[.slice A l.length c, .func (.func f) #[] cs.toArray] w fun e w' => e = .returned (.bool (decide (0 ≤ ixJ p 0 l))) ∧ J (ixN p 0 l) w' ∧ Fr S w w' := by
 refine sx_enter (vs := [_, _]) func33 rfl ntmps33 rfl ?_
 have M : Mem w S [] w := Mem.nil w
 refine srg (AG rfl (AC rfl (yb rfl (cl 7 rfl (AE rfl rfl call62) (WT A c l hl f cs p S J _ hP hR hJ) ?_))))
 rintro _ w9 ⟨rfl, hJ, hf9⟩
 refine ⟨_, rfl, ?_⟩
 have M : Mem w S [] w9 := Mem.ofFr hf9
 exact J2 rfl rfl (yb rfl (gnr (gr1 rfl ⟨rfl, hJ, M.fr⟩)))
theorem eV (A : Option Addr) (c : Nat) (l : List (List UInt8)) (w : World) (hl : l.length ≤ 4611686018427387904) (f : FuncId) (cs : List Value) (p : List UInt8 → Bool) (hP : PredJ prog f cs str l (fun _ => p) AM (fun _ _ => True) w) (hR : Rd w A (l.length * 1) (AB BK l)) :
 Calls prog 33 #[.slice A l.length c, .func (.func f) #[] cs.toArray] w (BN w (.bool (l.any p))) :=
 (eH A c l hl f cs (fun _ => p) AM (fun _ _ => True) w hP (fun _ hf => hR.fr0 hf) trivial).mono fun _ _ ⟨h1, _, h2⟩ => ⟨by rw [h1, J1], h2⟩
def LK (m : Md) (i : In) (next k : Int) : Bool := (if (((((((decide ((0 : Int) ≤ next)) && (decide (next ≤ (2147483647 : Int)))) && (decide ((0 : Int) ≤ k))) && (decide (k ≤ (1099511627776 : Int)))) && (decide (i.mdl = m.id))) && (decide ((1 : Int) ≤ i.id))) && (decide (i.id ≤ next))) = true then (HP i.vars m.vars) else false)
def S7 (m : Md) (i : In) (next k : Int) : Bool := (if (decide ((i.st.toNat : Int) = (1 : Int))) = true then ((LK m i next k) && (decide ((0 : Int) < ((i.toks.length : Nat) : Int)))) else (if ((decide ((i.st.toNat : Int) = (2 : Int))) || (decide ((i.st.toNat : Int) = (3 : Int)))) = true then ((LK m i next k) && (decide (((i.toks.length : Nat) : Int) = (0 : Int)))) else false))
def OE (m : Md) (c : CrA) (i : In) (next k : Int) (b1 : Bool) (j : Nat) (y : Tk) : Bool := (if b1 = true then (if (decide ((1 : Int) ≤ y.id)) = true then (if (decide (y.id ≤ next)) = true then (if (!decide (y.id = i.id)) = true then (if (decide (((j : Nat) : Int) = (0 : Int))) = true then (if (JA m c y) = true then (U9 y k) else false) else (if (decide ((qW i j) < y.id)) = true then (if (JA m c y) = true then (U9 y k) else false) else false)) else false) else false) else false) else false)
def lH (c : CrA) (i : In) (x : El) : Bool := (if (decide ((x.kind.toNat : Int) = (6 : Int))) = true then (!(List.any (c.ins x.id) (fun f => !(onP i.toks f)))) else false)
theorem sA {m : Md} {i : In} {next k : Int} (h : S7 m i next k = true) : 0 ≤ k ∧ k ≤ 1099511627776 := by
 have h0 : LK m i next k = true := by
  cases hc : LK m i next k with
  | true => rfl
  | false => unfold S7 at h; rw [hc] at h; simp at h
 unfold LK at h0
 repeat' split at h0
 all_goals first
  | (simp_all; done)
  | (simp_all; omega)
def lG (m : Md) (c : CrA) (i : In) (next k : Int) (b0 : Bool) : Nat → Bool
 | 0 => b0
 | j + 1 => match i.toks[j]? with
  | some y => OE m c i next k (lG m c i next k b0 j) j y
  | none => lG m c i next k b0 j
theorem s9 {m : Md} {c : CrA} {i : In} {next k : Int} {b1 : Bool} {j : Nat} {y : Tk} (h : OE m c i next k b1 j y = true) : b1 = true := by
 cases b1 with
 | true => rfl
 | false => unfold OE at h; simp at h
def GC (m : Md) (c : CrA) (i : In) (next k : Int) : Bool := lG m c i next k (S7 m i next k) i.toks.length && m.els.all (fun x => !(lH c i x))
theorem lJ (m : Md) (gc : Nat) (c : CrA) (F : List Nat) (i : In) (V T : Option Addr) (vc tc : Nat) (next k : Int) (w : World) (ho : MdOk m) (hC : CourseN w m gc c F) (hil : ∀ q, (c.ins q).length ≤ 400) (htl : i.toks.length ≤ 1000000) (hok : BdOk i.vars) (hwk : ∀ t ∈ i.toks, (t.worker.length : Int) < 4611686018427387904) (hV : Rd w V (i.vars.length * 5) (AB Bd.cells i.vars)) (hT : Rd w T (i.toks.length * 9) (AB Tk.cells i.toks)) (hY : Lay0 w) :
 Calls prog 14 #[pg gc, .agg (In.cells i V T vc tc).toArray, AA next, AA k] w (BN w (AA (if GC m c i next k = true then 0 else 1))) := by
 have hne := ho.nels
 refine BL func14 ntmps14 rfl fun M => srg (DD M rfl rfl fun g5 w1 hg5 M => AG rfl (sx_seq (AC rfl (ya rfl (IC rfl rfl rfl (pt rfl)) (nq (sx_false rfl ?_))))))
 refine sx_skip (qx_seq (sx_seq (NO ([(0, pg gc), (2, AA next), (3, AA k), (5, pg g5), (9, .bool (LK m i next k))]) (fun w' => Mem w AM [As.blk g5 33 (In.cells i V T vc tc)] w') ?_ (fun kj3 => ?_))))
 ·intro w2 M
  refine qx_seq (sx_seq (AC rfl (B2 M 0 rfl rfl rfl (nq (NO ([(0, pg gc), (2, AA next), (3, AA k), (5, pg g5), (9, .bool (S7 m i next k))]) (fun w' => Mem w AM [As.blk g5 33 (In.cells i V T vc tc)] w') ?_ (fun kj0 => ?_))))))
  ·intro w3 M
   refine qx_seq (srg (HL M (wn_none rfl) rfl rfl rfl fun g79 w4 hg79 M => E4 M (wn_none rfl) rfl rfl 92 rfl [.map none] G7 rfl fun g10 w5 hg10 M => gp1 M 0 rfl rfl rfl GA fun w6 M => nq (sx_seq (AC rfl (B2 M 2 rfl rfl rfl ?_)))))
   refine DP rfl rfl (AG rfl (sx_block (flp [82, 81, 10, 5, 3, 2, 0] (fun ze e wr mz => ∃ (j : Nat) (b1 : Bool) (L1 : List (List UInt8 × Value)), e = (9, .bool b1) :: (83, AA (j : Int)) :: ze ∧ Mem w AM [As.blk g10 92 [.map (some g79)], As.mp g79 L1, As.blk g5 33 (In.cells i V T vc tc)] wr ∧ (j ≤ i.toks.length) ∧ (b1 = lG m c i next k (S7 m i next k) j) ∧ (b1 = true → 0 ≤ k ∧ k ≤ 1099511627776) ∧ (∀ q, (BP L1 q).getD (.bool false) = .bool (onP (i.toks.take j) q)) ∧ mz = i.toks.length - j) ⟨0, (S7 m i next k), [], rfl, M, Nat.zero_le _, by first | rfl | (unfold S7; rfl), fun h => sA (by first | exact h | (unfold S7; exact h)), fun _ => rfl, rfl⟩ ?_)))
   rintro _ w7 _ ⟨j, b1, L1, rfl, M, hj, hbE, hbk, hon, rfl⟩
   refine srg (BM rfl rfl (nq (sx_seq (AF rfl (fun h84 => ?_) (fun h84 => ?_)))))
   ·have h84p := (odt h84)
    refine sx_skip (qx_seq (sx_seq (sx_block (AC rfl ?_))))
    obtain ⟨y, hy⟩ := BZ (l := i.toks) (i := j) A0
    obtain ⟨b_y, o_y, hA_y⟩ := B7 (k := 9) A0 (hT.fr0 M.fr) hy
    refine ya rfl (AP j hA_y rfl rfl rfl (sl rfl) A0) (ya rfl (AH rfl rfl (BB Tk.len (hT.fr0 M.fr) hA_y hy) underlying56 rfl B1) (CO M rfl EP fun g12 w8 hg12 M => yb rfl (C2 M 0 rfl rfl B1 rfl fun w9 M => nq (sx_seq (NO ([(0, pg gc), (2, AA next), (3, AA k), (5, pg g5), (9, .bool (OE m c i next k b1 j y)), (10, pg g10), (12, pg g12), (81, .slice T i.toks.length tc), (82, AA (i.toks.length : Int)), (83, AA (j : Int))]) (fun w' => Mem w AM [As.blk g12 56 (Tk.cells y), As.blk g10 92 [.map (some g79)], As.mp g79 L1, As.blk g5 33 (In.cells i V T vc tc)] w') ?_ (fun kr15 => ?_))))))
    ·intro  w10 M
     refine qx_seq (sx_region (B2 M 1 rfl rfl rfl (yb rfl (B2 M 0 rfl rfl rfl (ES M 2 (wn_none rfl) rfl rfl rfl rfl rfl underlying92 underlying9 rfl fun w11 M => sxl_nil (qx_block_normal (qx_seq (sx_region (C1 rfl rfl (yb rfl (sxl_nil (fag ⟨j + 1, (OE m c i next k b1 j y), CK L1 y.on (.bool true), rfl, (M.pk [1, 2, 3]), ?_, ?_, ?_, ?_, rfl⟩))))))))))))
     ·omega
     ·rw [hbE, lG, hy]
     ·exact fun h => hbk (s9 h)
     ·exact r4 hon (AJ hy)
    refine I6 M 47 CL fun M => oc 0 47 rfl rfl M (oc 1 47 rfl rfl M (D7 (d := 89) rfl (fun h89 => ?_) (fun h89 => ?_)))
    ·refine ob 2 47 rfl (wn_on rfl rfl rfl) rfl rfl M (fun _ M => yp rfl) (ob 3 47 rfl (wn_on rfl rfl rfl) rfl rfl M (fun _ M => B9 rfl rfl (sc rfl) (M.cell 0 rfl rfl)) (ob 4 47 rfl (wn_on rfl rfl rfl) rfl rfl M (fun _ M => GK rfl rfl rfl) (oc 5 47 rfl rfl M (oc 6 47 rfl rfl M (D7 (d := 94) rfl (fun h94 => ?_) (fun h94 => ?_))))))
     ·have h94p := (odt h94)
      refine ob 7 47 rfl (wn_on rfl rfl rfl) rfl rfl M (fun _ M => yp rfl) (ob 8 47 rfl (wn_on rfl rfl rfl) rfl rfl M (fun _ M => B9 rfl rfl (sc rfl) (M.cell 0 rfl rfl)) (ob 9 47 rfl (wn_on rfl rfl rfl) rfl rfl M (fun _ M => yp rfl) (ob 10 47 rfl (wn_on rfl rfl rfl) rfl rfl M (fun _ M => G8 rfl rfl rfl) (oc 11 47 rfl rfl M (oc 12 47 rfl rfl M (D7 (d := 100) rfl (fun h100 => ?_) (fun h100 => ?_)))))))
      ·have h100p := (odt h100)
       refine ob 13 47 rfl (wn_on rfl rfl rfl) rfl rfl M (fun _ M => yp rfl) (ob 14 47 rfl (wn_on rfl rfl rfl) rfl rfl M (fun _ M => B9 rfl rfl (sc rfl) (M.cell 0 rfl rfl)) (ob 15 47 rfl (wn_on rfl rfl rfl) rfl rfl M (fun _ M => yp rfl) (ob 16 47 rfl (wn_on rfl rfl rfl) rfl rfl M (fun _ M => B9 rfl rfl (sc rfl) (M.cell 3 rfl rfl)) (ob 17 47 rfl (wn_on rfl rfl rfl) rfl rfl M (fun _ M => E1 rfl rfl rfl) (oc 18 47 rfl rfl M (oc 19 47 rfl rfl M (D7 (d := 107) rfl (fun h107 => ?_) (fun h107 => ?_))))))))
       ·have h107p := (odf (BY h107))
        refine ob 20 47 rfl (wn_on rfl rfl rfl) rfl rfl M (fun _ M => yp rfl) (ob 21 47 rfl (wn_on rfl rfl rfl) rfl rfl M (fun _ M => BO rfl rfl rfl) (ob 22 47 rfl (wn_on rfl rfl rfl) rfl rfl M (fun _ M => yp rfl) (D7 (d := 110) rfl (fun h110 => ?_) (fun h110 => ?_))))
        ·refine B5 23 47 rfl M (B5 24 47 rfl M (B5 25 47 rfl M (B5 26 47 rfl M (B5 27 47 rfl M (B5 28 47 rfl M (B5 29 47 rfl M (B5 30 47 rfl M (B5 31 47 rfl M (B5 32 47 rfl M (ob 33 47 rfl (wn_on rfl rfl rfl) rfl rfl M (fun _ M => yp rfl) (oc 34 47 rfl rfl M (oc 35 47 rfl rfl M (ob 36 47 rfl (wn_on rfl rfl rfl) rfl rfl M (fun _ M => yp rfl) (ob 37 47 rfl (wn_on rfl rfl rfl) rfl rfl M (fun _ M => AH (xs := Tk.cells y) rfl rfl (M.rdBlk 0 rfl rfl) underlying56 rfl B1) (C5 38 (some 126) gkr rfl (wn_on rfl rfl rfl) rfl rfl (AE rfl rfl call31) (R8 m gc c F y _ ho (hC.fr0 M.fr)) ?_)))))))))))))))
         rintro _ w12 ⟨rfl, hfw12⟩
         refine ⟨_, rfl, fun _ => M.step hfw12, ?_⟩
         have M := M.step hfw12
         refine oc 39 47 rfl rfl M (oc 40 47 rfl rfl M (D7 (d := 128) rfl (fun h128 => ?_) (fun h128 => ?_)))
         ·refine ob 41 47 rfl (wn_on rfl rfl rfl) rfl rfl M (fun _ M => yp rfl) (ob 42 47 rfl (wn_on rfl rfl rfl) rfl rfl M (fun _ M => AH (xs := Tk.cells y) rfl rfl (M.rdBlk 0 rfl rfl) underlying56 rfl B1) (ob 43 47 rfl (wn_on rfl rfl rfl) rfl rfl M (fun _ M => yp rfl) (C5 44 (some 132) gkr rfl (wn_on rfl rfl rfl) rfl rfl (AE rfl rfl call32) (VS gc y k _ (hwk y (List.mem_of_getElem? hy)) (hbk h89)) ?_)))
          rintro _ w13 ⟨rfl, hfw13⟩
          refine ⟨_, rfl, fun _ => M.step hfw13, ?_⟩
          have M := M.step hfw13
          exact oc 45 47 rfl rfl M (oc 46 47 rfl rfl M (fdn (kr15  _ _ M ⟨rfl, rfl, rfl, rfl, (by rw [OE, if_pos h89, if_pos h94, if_pos h100, if_pos h107, if_pos h110, if_pos h128]; rfl), rfl, rfl, rfl, rfl, rfl, trivial⟩)))
         ·exact B5 41 47 rfl M (B5 42 47 rfl M (B5 43 47 rfl M (B5 44 47 rfl M (oc 45 47 rfl rfl M (oc 46 47 rfl rfl M (fdn (kr15  _ _ M ⟨rfl, rfl, rfl, rfl, (by rw [OE, if_pos h89, if_pos h94, if_pos h100, if_pos h107, if_pos h110, AS h128]; rfl), rfl, rfl, rfl, rfl, rfl, trivial⟩)))))))
        ·have h110p := (odf h110)
         refine ob 23 47 rfl (wn_on rfl rfl rfl) rfl rfl M (fun _ M => yp rfl) (ob 24 47 rfl (wn_on rfl rfl rfl) rfl rfl M (fun _ M => B9 rfl rfl (sc rfl) (M.cell 3 rfl rfl)) (ob 25 47 rfl (wn_on rfl rfl rfl) rfl rfl M (fun _ M => yp rfl) (ob 26 47 rfl (wn_on rfl rfl rfl) rfl rfl M (fun _ M => DW (a := j) (b := 1) rfl rfl rfl A0 A0) ?_)))
         obtain ⟨y2, hy2⟩ := BZ (l := i.toks) (i := j - 1) A0
         obtain ⟨b_y2, o_y2, hA_y2⟩ := B7 (k := 9) A0 (hT.fr0 M.fr) hy2
         refine ob 27 47 rfl (wn_on rfl rfl rfl) rfl rfl M (fun _ M => AP (j - 1) hA_y2 rfl rfl rfl (sl rfl) A0) (ob 28 47 rfl (wn_on rfl rfl rfl) rfl rfl M (fun _ M => yp rfl) ?_)
         have hpd : qW i j = y2.id := by unfold qW; rw [hy2]; rfl
         refine ob 29 47 rfl (wn_on rfl rfl rfl) rfl rfl M (fun _ M => B9 rfl rfl (sc rfl) (hpd ▸ E5 Tk.len (hT.fr0 M.fr) hA_y2 hy2 0 rfl)) (ob 30 47 rfl (wn_on rfl rfl rfl) rfl rfl M (fun _ M => yp rfl) (ob 31 47 rfl (wn_on rfl rfl rfl) rfl rfl M (fun _ M => B9 rfl rfl (sc rfl) (M.cell 0 rfl rfl)) (ob 32 47 rfl (wn_on rfl rfl rfl) rfl rfl M (fun _ M => EQ rfl rfl rfl) (ob 33 47 rfl (wn_on rfl rfl rfl) rfl rfl M (fun _ M => yp rfl) (oc 34 47 rfl rfl M (oc 35 47 rfl rfl M (D7 (d := 123) rfl (fun h123 => ?_) (fun h123 => ?_))))))))
         ·refine ob 36 47 rfl (wn_on rfl rfl rfl) rfl rfl M (fun _ M => yp rfl) (ob 37 47 rfl (wn_on rfl rfl rfl) rfl rfl M (fun _ M => AH (xs := Tk.cells y) rfl rfl (M.rdBlk 0 rfl rfl) underlying56 rfl B1) (C5 38 (some 126) gkr rfl (wn_on rfl rfl rfl) rfl rfl (AE rfl rfl call31) (R8 m gc c F y _ ho (hC.fr0 M.fr)) ?_))
          rintro _ w14 ⟨rfl, hfw14⟩
          refine ⟨_, rfl, fun _ => M.step hfw14, ?_⟩
          have M := M.step hfw14
          refine oc 39 47 rfl rfl M (oc 40 47 rfl rfl M (D7 (d := 128) rfl (fun h128 => ?_) (fun h128 => ?_)))
          ·refine ob 41 47 rfl (wn_on rfl rfl rfl) rfl rfl M (fun _ M => yp rfl) (ob 42 47 rfl (wn_on rfl rfl rfl) rfl rfl M (fun _ M => AH (xs := Tk.cells y) rfl rfl (M.rdBlk 0 rfl rfl) underlying56 rfl B1) (ob 43 47 rfl (wn_on rfl rfl rfl) rfl rfl M (fun _ M => yp rfl) (C5 44 (some 132) gkr rfl (wn_on rfl rfl rfl) rfl rfl (AE rfl rfl call32) (VS gc y k _ (hwk y (List.mem_of_getElem? hy)) (hbk h89)) ?_)))
           rintro _ w15 ⟨rfl, hfw15⟩
           refine ⟨_, rfl, fun _ => M.step hfw15, ?_⟩
           have M := M.step hfw15
           exact oc 45 47 rfl rfl M (oc 46 47 rfl rfl M (fdn (kr15  _ _ M ⟨rfl, rfl, rfl, rfl, (by rw [OE, if_pos h89, if_pos h94, if_pos h100, if_pos h107, AS h110, if_pos h123, if_pos h128]; rfl), rfl, rfl, rfl, rfl, rfl, trivial⟩)))
          ·exact B5 41 47 rfl M (B5 42 47 rfl M (B5 43 47 rfl M (B5 44 47 rfl M (oc 45 47 rfl rfl M (oc 46 47 rfl rfl M (fdn (kr15  _ _ M ⟨rfl, rfl, rfl, rfl, (by rw [OE, if_pos h89, if_pos h94, if_pos h100, if_pos h107, AS h110, if_pos h123, AS h128]; rfl), rfl, rfl, rfl, rfl, rfl, trivial⟩)))))))
         ·exact B5 36 47 rfl M (B5 37 47 rfl M (B5 38 47 rfl M (oc 39 47 rfl rfl M (oc 40 47 rfl rfl M (B5 41 47 rfl M (B5 42 47 rfl M (B5 43 47 rfl M (B5 44 47 rfl M (oc 45 47 rfl rfl M (oc 46 47 rfl rfl M (fdn (kr15  _ _ M ⟨rfl, rfl, rfl, rfl, (by rw [OE, if_pos h89, if_pos h94, if_pos h100, if_pos h107, AS h110, AS h123]; rfl), rfl, rfl, rfl, rfl, rfl, trivial⟩))))))))))))
       ·refine B5 20 47 rfl M (B5 21 47 rfl M (B5 22 47 rfl M (DU 23 47 rfl rfl M (DU 24 47 rfl rfl M (DU 25 47 rfl rfl M (DU 26 47 rfl rfl M (DU 27 47 rfl rfl M (DU 28 47 rfl rfl M (DU 29 47 rfl rfl M (DU 30 47 rfl rfl M (DU 31 47 rfl rfl M (DU 32 47 rfl rfl M (B5 33 47 rfl M (oc 34 47 rfl rfl M (oc 35 47 rfl rfl M ?_)))))))))))))))
        exact B5 36 47 rfl M (B5 37 47 rfl M (B5 38 47 rfl M (oc 39 47 rfl rfl M (oc 40 47 rfl rfl M (B5 41 47 rfl M (B5 42 47 rfl M (B5 43 47 rfl M (B5 44 47 rfl M (oc 45 47 rfl rfl M (oc 46 47 rfl rfl M (fdn (kr15  _ _ M ⟨rfl, rfl, rfl, rfl, (by rw [OE, if_pos h89, if_pos h94, if_pos h100, AS h107]; rfl), rfl, rfl, rfl, rfl, rfl, trivial⟩))))))))))))
      ·refine B5 13 47 rfl M (B5 14 47 rfl M (B5 15 47 rfl M (B5 16 47 rfl M (B5 17 47 rfl M (oc 18 47 rfl rfl M (oc 19 47 rfl rfl M (B5 20 47 rfl M (B5 21 47 rfl M (B5 22 47 rfl M (DU 23 47 rfl rfl M (DU 24 47 rfl rfl M (DU 25 47 rfl rfl M (DU 26 47 rfl rfl M (DU 27 47 rfl rfl M (DU 28 47 rfl rfl M ?_)))))))))))))))
       refine DU 29 47 rfl rfl M (DU 30 47 rfl rfl M (DU 31 47 rfl rfl M (DU 32 47 rfl rfl M (B5 33 47 rfl M (oc 34 47 rfl rfl M (oc 35 47 rfl rfl M (B5 36 47 rfl M (B5 37 47 rfl M (B5 38 47 rfl M (oc 39 47 rfl rfl M (oc 40 47 rfl rfl M (B5 41 47 rfl M (B5 42 47 rfl M (B5 43 47 rfl M (B5 44 47 rfl M ?_)))))))))))))))
       exact oc 45 47 rfl rfl M (oc 46 47 rfl rfl M (fdn (kr15  _ _ M ⟨rfl, rfl, rfl, rfl, (by rw [OE, if_pos h89, if_pos h94, AS h100]; rfl), rfl, rfl, rfl, rfl, rfl, trivial⟩)))
     ·refine B5 7 47 rfl M (B5 8 47 rfl M (B5 9 47 rfl M (B5 10 47 rfl M (oc 11 47 rfl rfl M (oc 12 47 rfl rfl M (B5 13 47 rfl M (B5 14 47 rfl M (B5 15 47 rfl M (B5 16 47 rfl M (B5 17 47 rfl M (oc 18 47 rfl rfl M (oc 19 47 rfl rfl M (B5 20 47 rfl M (B5 21 47 rfl M (B5 22 47 rfl M ?_)))))))))))))))
      refine DU 23 47 rfl rfl M (DU 24 47 rfl rfl M (DU 25 47 rfl rfl M (DU 26 47 rfl rfl M (DU 27 47 rfl rfl M (DU 28 47 rfl rfl M (DU 29 47 rfl rfl M (DU 30 47 rfl rfl M (DU 31 47 rfl rfl M (DU 32 47 rfl rfl M (B5 33 47 rfl M (oc 34 47 rfl rfl M (oc 35 47 rfl rfl M (B5 36 47 rfl M (B5 37 47 rfl M (B5 38 47 rfl M ?_)))))))))))))))
      exact oc 39 47 rfl rfl M (oc 40 47 rfl rfl M (B5 41 47 rfl M (B5 42 47 rfl M (B5 43 47 rfl M (B5 44 47 rfl M (oc 45 47 rfl rfl M (oc 46 47 rfl rfl M (fdn (kr15  _ _ M ⟨rfl, rfl, rfl, rfl, (by rw [OE, if_pos h89, AS h94]; rfl), rfl, rfl, rfl, rfl, rfl, trivial⟩)))))))))
    ·refine B5 2 47 rfl M (B5 3 47 rfl M (B5 4 47 rfl M (oc 5 47 rfl rfl M (oc 6 47 rfl rfl M (B5 7 47 rfl M (B5 8 47 rfl M (B5 9 47 rfl M (B5 10 47 rfl M (oc 11 47 rfl rfl M (oc 12 47 rfl rfl M (B5 13 47 rfl M (B5 14 47 rfl M (B5 15 47 rfl M (B5 16 47 rfl M (B5 17 47 rfl M ?_)))))))))))))))
     refine oc 18 47 rfl rfl M (oc 19 47 rfl rfl M (B5 20 47 rfl M (B5 21 47 rfl M (B5 22 47 rfl M (DU 23 47 rfl rfl M (DU 24 47 rfl rfl M (DU 25 47 rfl rfl M (DU 26 47 rfl rfl M (DU 27 47 rfl rfl M (DU 28 47 rfl rfl M (DU 29 47 rfl rfl M (DU 30 47 rfl rfl M (DU 31 47 rfl rfl M (DU 32 47 rfl rfl M (B5 33 47 rfl M ?_)))))))))))))))
     exact oc 34 47 rfl rfl M (oc 35 47 rfl rfl M (B5 36 47 rfl M (B5 37 47 rfl M (B5 38 47 rfl M (oc 39 47 rfl rfl M (oc 40 47 rfl rfl M (B5 41 47 rfl M (B5 42 47 rfl M (B5 43 47 rfl M (B5 44 47 rfl M (oc 45 47 rfl rfl M (oc 46 47 rfl rfl M (fdn (kr15  _ _ M ⟨rfl, rfl, rfl, rfl, (by rw [OE, AS h89]; rfl), rfl, rfl, rfl, rfl, rfl, trivial⟩))))))))))))))
   ·have h84p := (odf h84)
    refine sx_exit (qx_then_exit (qx_then_exit ?_))
    obtain rfl : j = i.toks.length := by omega
    rw [List.take_length] at hon
    refine qx_block_hit (qx_seq (sx_seq (srg ?_)))
    iterate 4 refine yb rfl ?_
    refine yl rfl rfl (Blk.c ((hC.fr0 M.fr).blk) 3 rfl) (DP rfl rfl (AG rfl (sx_block (MX M [143, 142, 10, 0] (fun ze zF e wr mz => ∃ (q : Nat) (b2 : Bool), e = (9, .bool b2) :: (144, AA ((q : Nat) : Int)) :: ze ∧ zF wr ∧ (q ≤ m.els.length) ∧ (b2 = (b1 && (m.els.take q).all (fun x => !(lH c i x)))) ∧ mz = m.els.length - q) ⟨0, b1, rfl, M, Nat.zero_le _, (Bool.and_true _).symm, rfl⟩ ?_))))
    rintro _ w16 _ ⟨q, b2, rfl, M, hq, hb2, rfl⟩
    refine srg (BM rfl rfl (nq (sx_seq (AF rfl (fun h145 => ?_) (fun h145 => ?_)))))
    ·have h145p := (odt h145)
     refine sx_skip (qx_seq (sx_seq (sx_block (srg ?_))))
     obtain ⟨x, hx⟩ := BZ (l := m.els) (i := q) A0
     obtain ⟨b_x, o_x, hA_x⟩ := B7 (k := 11) A0 ((hC.fr0 M.fr).md.md.els) hx
     refine ya rfl (AP q hA_x rfl rfl rfl (sl rfl) A0) (ya rfl (AH rfl rfl (BB El.len ((hC.fr0 M.fr).md.md.els) hA_x hx) underlying95 rfl AK) (CO M rfl AQ fun g14 w17 hg14 M => C2 M 0 rfl rfl AK rfl fun w18 M => nq (sx_seq (NO ([(0, pg gc), (9, .bool b2), (10, pg g10), (142, .slice c.a.E m.els.length c.a.ec), (143, AA (m.els.length : Int)), (144, AA ((q : Nat) : Int)), (162, .bool (lH c i x))]) (fun w' => Mem w AM [As.blk g14 95 (El.cells x), As.blk g10 92 [.map (some g79)], As.mp g79 L1, As.blk g5 33 (In.cells i V T vc tc)] w') ?_ (fun kj21 => ?_)))))
     ·intro w19 M
      refine qx_seq (AF rfl (fun h162 => ?_) (fun h162 => ?_))
      ·refine sx_region (yb rfl (sxl_nil (qx_block_normal (qx_seq (sx_region (C1 rfl rfl (yb rfl (sxl_nil (fag ⟨q + 1, false, rfl, (M.pk [1, 2, 3]), ?_, ?_, rfl⟩)))))))))
       ·omega
       ·rw [AJ hx, List.all_append]
        first
         | (rw [hb2]; simp [h162]; done)
         | simp [h162]
      ·refine sx_skip (qx_block_normal (qx_seq (sx_region (C1 rfl rfl (yb rfl (sxl_nil (fag ⟨q + 1, b2, rfl, (M.pk [1, 2, 3]), ?_, ?_, rfl⟩)))))))
       ·omega
       ·rw [AJ hx, List.all_append]
        first
         | (rw [hb2]; simp [h162]; done)
         | simp [h162]
     refine DL 12 CL gkr ?_
     have M := M.drew
     refine sb rfl (GZ M 0 rfl rfl rfl (sa rfl (BO rfl rfl rfl) (sb rfl (D6 (d := 151) rfl (fun h151 => ?_) (fun h151 => ?_)))))
     ·have h151p := (odt h151)
      refine gsg rfl (yp rfl) (gsg rfl (yp rfl) (gsg rfl (yp rfl) (gsg rfl (B9 rfl rfl (sc rfl) (Blk.c ((hC.fr0 M.fr).blk) 7 rfl)) (gsg rfl (yp rfl) (gsg rfl (B9 rfl rfl (sc rfl) (M.cell 0 rfl rfl)) (gsg rfl (BD rfl rfl rfl underlying87 underlying9 EO ((hC.fr0 M.fr).I) (hC.getI _)) (gsg rfl (CE (us := []) (vs := [pg g10]) rfl rfl rfl) (CB (sxl_call (some 160) (wn_on rfl rfl rfl) rfl rfl (AE rfl rfl call33) (eV (MB (ED c.LI x.id)) (Y3 (ED c.LI x.id)) (c.ins x.id) _ (by have := hil x.id; omega) 34 [pg g10] (fun f => !(onP i.toks f)) (G3 call34 (fun f _ w9 hf9 => eJ i.toks g10 g79 L1 f w9 ((M.blk 1 rfl).fr0 hf9) (Mp.fr (M.mp 2 rfl) hf9 (fun hh => hh)) hon)) ((hC.fr0 M.fr).rdI _)) ?_)))))))))
      rintro _ w20 ⟨rfl, hfw20⟩
      refine ⟨_, rfl, ?_⟩
      have M := M.step hfw20
      exact gyq rfl (yb rfl (sxl_nil (kj21 _ _ M ⟨rfl, rfl, rfl, rfl, rfl, rfl, (by rw [lH, if_pos h151]; rfl), trivial⟩)))
     ·iterate 8 refine D3 rfl rfl rfl rfl rfl rfl ?_
      exact CB (yo rfl (yo rfl (yb rfl (sxl_nil (kj21 _ _ M ⟨rfl, rfl, rfl, rfl, rfl, rfl, (by rw [lH, AS h151]; rfl), trivial⟩)))))
    ·have h145p := (odf h145)
     refine sx_exit (qx_then_exit (qx_then_exit ?_))
     obtain rfl : q = m.els.length := by omega
     rw [List.take_length] at hb2
     refine qx_block_hit (qx_seq (sx_seq (AC rfl (AG rfl (AF rfl (fun h165 => ?_) (fun h165 => ?_))))))
     ·exact AC rfl (gnr (qx_then_ret (gr1 rfl ⟨by rw [GC, ← hbE, ← hb2, if_neg (by rw [BY h165]; decide)], M.fr⟩)))
     ·exact sx_skip (qx_seq (AC rfl (gnr (gr1 rfl ⟨by rw [GC, ← hbE, ← hb2, if_pos (BJ h165)], M.fr⟩))))
  refine sx_block (srg (C7 rfl rfl (AG rfl (AF rfl (fun h60 => ?_) (fun h60 => ?_)))))
  ·refine sx_region (AV rfl rfl (fvm M 5 [9, 5, 3, 2, 0] [(68, .bool ((LK m i next k) && (decide (0 < (i.toks.length : Int)))))] ?_ (fun k63 => ?_)))
   ·intro w21 M
    exact yb rfl (sxl_nil (qx_block_normal (kj0 _ _ M ⟨rfl, rfl, rfl, rfl, (by rw [S7, if_pos h60]; rfl), trivial⟩)))
   refine AD (d := 63) rfl (fun h63 => ?_) (fun h63 => ?_)
   ·exact gyq rfl (C3 M 0 rfl rfl rfl (yd rfl (F5 rfl rfl (sl rfl)) (yd rfl (G9 rfl rfl rfl) (yb rfl (k63 M ⟨rfl, rfl, rfl, rfl, rfl, (by rw [h63]; rfl), trivial⟩)))))
   ·iterate 4 refine yo rfl ?_
    exact yb rfl (k63 M ⟨rfl, rfl, rfl, rfl, rfl, (by rw [h63]; rfl), trivial⟩)
  ·refine sx_seq (srg (C7 rfl rfl (AG rfl (LU [(0, pg gc), (2, AA next), (3, AA k), (5, pg g5), (9, .bool (LK m i next k)), (69, .bool ((decide ((i.st.toNat : Int) = 2)) || (decide ((i.st.toNat : Int) = 3))))] (fun w' => Mem w AM [As.blk g5 33 (In.cells i V T vc tc)] w') ?_ (fun k69 => ?_)))))
   ·intro w22 M
    refine qx_seq (AF rfl (fun h69 => ?_) (fun h69 => ?_))
    ·have h69p := ((E6 h69).imp (fun z => (odt z)) (fun z => (odt z)))
     refine sx_region (AV rfl rfl (fvm M 5 [9, 5, 3, 2, 0] [(78, .bool ((LK m i next k) && (decide ((i.toks.length : Int) = 0))))] ?_ (fun k73 => ?_)))
     ·intro w23 M
      exact yb rfl (sxl_nil (qx_block_normal (kj0 _ _ M ⟨rfl, rfl, rfl, rfl, (by rw [S7, AS h60, if_pos h69]; rfl), trivial⟩)))
     refine AD (d := 73) rfl (fun h73 => ?_) (fun h73 => ?_)
     ·exact gyq rfl (C3 M 0 rfl rfl rfl (yd rfl (F5 rfl rfl (sl rfl)) (yd rfl (BO rfl rfl rfl) (yb rfl (k73 M ⟨rfl, rfl, rfl, rfl, rfl, (by rw [h73]; rfl), trivial⟩)))))
     ·iterate 4 refine yo rfl ?_
      exact yb rfl (k73 M ⟨rfl, rfl, rfl, rfl, rfl, (by rw [h73]; rfl), trivial⟩)
    ·exact sx_region (yb rfl (sxl_nil (qx_block_normal (kj0 _ _ M ⟨rfl, rfl, rfl, rfl, (by rw [S7, AS h60, AS h69]; rfl), trivial⟩))))
   refine AF rfl (fun h69 => ?_) (fun h69 => ?_)
   ·exact sx_skip (k69 _ _ M ⟨rfl, rfl, rfl, rfl, rfl, (by rw [h69]; rfl), trivial⟩)
   ·exact sx_region (C7 rfl rfl (yb rfl (sxl_nil (k69 _ _ M ⟨rfl, rfl, rfl, rfl, rfl, (by rw [h69]; rfl), trivial⟩))))
 refine DL 39 CL gkr ?_
 have M := M.drew
 refine sb rfl (sa rfl (GK rfl rfl rfl) (sb rfl (fvs 3 [5, 3, 2, 0] [(22, .bool ((decide ((0 : Int) ≤ next)) && (decide (next ≤ (2147483647 : Int)))))] ?_ (fun k19 => ?_))))
 ·refine sb rfl (fvs 3 [5, 3, 2, 0] [(26, .bool (((decide ((0 : Int) ≤ next)) && (decide (next ≤ (2147483647 : Int)))) && (decide ((0 : Int) ≤ k))))] ?_ (fun k23 => ?_))
  ·refine sb rfl (fvs 3 [5, 3, 2, 0] [(30, .bool ((((decide ((0 : Int) ≤ next)) && (decide (next ≤ (2147483647 : Int)))) && (decide ((0 : Int) ≤ k))) && (decide (k ≤ (1099511627776 : Int)))))] ?_ (fun k27 => ?_))
   ·refine sb rfl (fvs 9 [5, 3, 2, 0] [(40, .bool (((((decide ((0 : Int) ≤ next)) && (decide (next ≤ (2147483647 : Int)))) && (decide ((0 : Int) ≤ k))) && (decide (k ≤ (1099511627776 : Int)))) && (decide (i.mdl = m.id))))] ?_ (fun k31 => ?_))
    ·refine sb rfl (fvs 4 [5, 3, 2, 0] [(45, .bool ((((((decide ((0 : Int) ≤ next)) && (decide (next ≤ (2147483647 : Int)))) && (decide ((0 : Int) ≤ k))) && (decide (k ≤ (1099511627776 : Int)))) && (decide (i.mdl = m.id))) && (decide ((1 : Int) ≤ i.id))))] ?_ (fun k41 => ?_))
     ·refine sb rfl (fvs 5 [5, 3, 2, 0] [(51, .bool (((((((decide ((0 : Int) ≤ next)) && (decide (next ≤ (2147483647 : Int)))) && (decide ((0 : Int) ≤ k))) && (decide (k ≤ (1099511627776 : Int)))) && (decide (i.mdl = m.id))) && (decide ((1 : Int) ≤ i.id))) && (decide (i.id ≤ next))))] ?_ (fun k46 => ?_))
      ·refine sb rfl (D6 (d := 52) rfl (fun h52 => ?_) (fun h52 => ?_))
       ·refine gsg rfl (yp rfl) (gsg rfl (yp rfl) (gsg rfl (B9 rfl rfl (sc rfl) (M.cell 0 rfl rfl)) (CB (sxl_call (some 56) (wn_on rfl rfl rfl) rfl rfl (AE rfl rfl call30) (ZA m gc c F i.vars V vc _ (hC.fr0 M.fr) hok (hV.fr0 M.fr) (hY.fr0 M.fr)) ?_))))
        rintro _ w24 ⟨rfl, hfw24⟩
        refine ⟨_, rfl, ?_⟩
        have M := M.step hfw24
        exact AV rfl rfl (sxl_nil (kj3 _ _ M ⟨rfl, rfl, rfl, rfl, (by rw [LK, if_pos h52]; rfl), trivial⟩))
       ·have h52p := ((DA h52).imp (fun z => ((DA z).imp (fun z => ((DA z).imp (fun z => ((DA z).imp (fun z => ((DA z).imp (fun z => ((DA z).imp (fun z => (odf z)) (fun z => (odf z)))) (fun z => (odf z)))) (fun z => (odf z)))) (fun z => (odf z)))) (fun z => (odf z)))) (fun z => (odf z)))
        exact D3 rfl rfl rfl rfl rfl rfl (D3 rfl rfl rfl rfl rfl rfl (D3 rfl rfl rfl rfl rfl rfl (CB (yo rfl (AV rfl rfl (sxl_nil (kj3 _ _ M ⟨rfl, rfl, rfl, rfl, (by rw [LK, AS h52]; rfl), trivial⟩)))))))
      refine D6 (d := 46) rfl (fun h46 => ?_) (fun h46 => ?_)
      ·exact gsg rfl (yp rfl) (gsg rfl (B9 rfl rfl (sc rfl) (M.cell 0 rfl rfl)) (gsg rfl (yp rfl) (gsg rfl (G8 rfl rfl rfl) (sb rfl (k46 _ ⟨rfl, rfl, rfl, rfl, (by rw [h46]; rfl), trivial⟩)))))
      ·iterate 4 refine D3 rfl rfl rfl rfl rfl rfl ?_
       exact sb rfl (k46 _ ⟨rfl, rfl, rfl, rfl, (by rw [h46]; rfl), trivial⟩)
     refine D6 (d := 41) rfl (fun h41 => ?_) (fun h41 => ?_)
     ·exact gsg rfl (yp rfl) (gsg rfl (B9 rfl rfl (sc rfl) (M.cell 0 rfl rfl)) (gsg rfl (GK rfl rfl rfl) (sb rfl (k41 _ ⟨rfl, rfl, rfl, rfl, (by rw [h41]; rfl), trivial⟩))))
     ·exact D3 rfl rfl rfl rfl rfl rfl (D3 rfl rfl rfl rfl rfl rfl (D3 rfl rfl rfl rfl rfl rfl (sb rfl (k41 _ ⟨rfl, rfl, rfl, rfl, (by rw [h41]; rfl), trivial⟩))))
    refine D6 (d := 31) rfl (fun h31 => ?_) (fun h31 => ?_)
    ·refine gsg rfl (yp rfl) (gsg rfl (B9 rfl rfl (sc rfl) (M.cell 0 rfl rfl)) ?_)
     iterate 4 refine gsg rfl (yp rfl) ?_
     exact gsg rfl (B9 rfl rfl (sc rfl) (Blk.c ((hC.fr0 M.fr).blk) 0 rfl)) (gsg rfl (CS rfl rfl rfl) (sb rfl (k31 _ ⟨rfl, rfl, rfl, rfl, (by rw [h31]; rfl), trivial⟩)))
    ·iterate 8 refine D3 rfl rfl rfl rfl rfl rfl ?_
     exact sb rfl (k31 _ ⟨rfl, rfl, rfl, rfl, (by rw [h31]; rfl), trivial⟩)
   refine D6 (d := 27) rfl (fun h27 => ?_) (fun h27 => ?_)
   ·exact gsg rfl (yp rfl) (gsg rfl (G8 rfl rfl rfl) (sb rfl (k27 _ ⟨rfl, rfl, rfl, rfl, (by rw [h27]; rfl), trivial⟩)))
   ·exact D3 rfl rfl rfl rfl rfl rfl (D3 rfl rfl rfl rfl rfl rfl (sb rfl (k27 _ ⟨rfl, rfl, rfl, rfl, (by rw [h27]; rfl), trivial⟩)))
  refine D6 (d := 23) rfl (fun h23 => ?_) (fun h23 => ?_)
  ·exact gsg rfl (yp rfl) (gsg rfl (GK rfl rfl rfl) (sb rfl (k23 _ ⟨rfl, rfl, rfl, rfl, (by rw [h23]; rfl), trivial⟩)))
  ·exact D3 rfl rfl rfl rfl rfl rfl (D3 rfl rfl rfl rfl rfl rfl (sb rfl (k23 _ ⟨rfl, rfl, rfl, rfl, (by rw [h23]; rfl), trivial⟩)))
 refine D6 (d := 19) rfl (fun h19 => ?_) (fun h19 => ?_)
 ·exact gsg rfl (yp rfl) (gsg rfl (G8 rfl rfl rfl) (sb rfl (k19 _ ⟨rfl, rfl, rfl, rfl, (by rw [h19]; rfl), trivial⟩)))
 ·exact D3 rfl rfl rfl rfl rfl rfl (D3 rfl rfl rfl rfl rfl rfl (sb rfl (k19 _ ⟨rfl, rfl, rfl, rfl, (by rw [h19]; rfl), trivial⟩)))
end Go.Proofs.YtaheakjfkpkefaaGreatDoor
