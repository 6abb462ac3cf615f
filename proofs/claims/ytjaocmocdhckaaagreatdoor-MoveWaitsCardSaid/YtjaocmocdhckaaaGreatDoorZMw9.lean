/- Lemmas that the last text rests on. Condition: each says its own. -/
import Derived.Test.YtjaocmocdhckaaaGreatDoorZMw8
set_option maxHeartbeats 16000000
set_option maxRecDepth 100000
namespace Go.Proofs.YtjaocmocdhckaaaGreatDoor
open Go.RowKit
open Tryz
def onP (l : List Tk) (q : List UInt8) : Bool := l.any fun t => decide (t.on = q)
theorem oS {l l' : List Tk} {L : List (List UInt8 × Value)} {y : Tk} (h : ∀ q, (CQ L q).getD (.bool false) = .bool (onP l q)) (hl : l' = l ++ [y]) : ∀ q, (CQ (DJ L y.on (.bool true)) q).getD (.bool false) = .bool (onP l' q) := fun q => by
 rw [hl, G2]
 unfold onP
 rw [List.any_append]
 by_cases hq : q = y.on
 ·rw [if_pos hq, hq]; simp
 ·have : ¬ y.on = q := fun e => hq e.symm
  rw [if_neg hq, h q]; unfold onP; simp [this]
def aZ (i : In) (j : Nat) : Int := ((i.toks[j - 1]?).map (·.id)).getD 0
theorem cL (l : List Tk) (g10 g79 : Nat) (L : List (List UInt8 × Value)) (f : List UInt8) (w : World) (hb : Blk w g10 86 [.map (some g79)]) (hm : Mp w g79 L) (hon : ∀ q, (CQ L q).getD (.bool false) = .bool (onP l q)) :
 Calls prog 30 #[str f, pg g10] w fun e w' => e = .returned (.bool (!(onP l f))) ∧ Fr0 w w' := by
 refine C2 func30 ntmps30 rfl fun M => srg (yb rfl (nq (srg (yl rfl rfl (Blk.c (hb.fr0 M.fr) 0 rfl) (yb rfl (ya rfl (BP rfl rfl rfl underlying86 underlying9 NE (Mp.fr hm M.fr (fun hh => hh)) (hon f)) (yb rfl (yb rfl (nq (AI ?_))))))))))
 exact gr1 rfl ⟨rfl, M.fr⟩
theorem cJ (A : Option Addr) (c : Nat) (l : List (List UInt8)) (hl : l.length ≤ 4611686018427387904) (f : FuncId) (cs : List Value) (p : Nat → (List UInt8) → Bool) (S : Nat → Prop) (J : Nat → World → Prop) (w : World) (hP : PredJ prog f cs str l p S J w) (hR : ∀ w1, Fr S w w1 → Rd w1 A (l.length * 1) (AK BW l)) (hJ : J 0 w) :
 Calls prog 29 #[.slice A l.length c, .func (.func f) #[] cs.toArray] w fun e w' => e = .returned (.bool (decide (0 ≤ ixJ p 0 l))) ∧ J (ixN p 0 l) w' ∧ Fr S w w' := by
 refine BC (vs := [_, _]) func29 rfl ntmps29 rfl ?_
 have M : Mem w S [] w := Mem.nil w
 refine srg (yb rfl (nq (srg (yb rfl (yb rfl (cl 7 rfl (AQ rfl rfl call68) (VW A c l hl f cs p S J _ hP hR hJ) ?_))))))
 rintro _ w9 ⟨rfl, hJ, hf9⟩
 refine ⟨_, rfl, ?_⟩
 have M : Mem w S [] w9 := Mem.ofFr hf9
 exact RB rfl rfl (yb rfl (nq (AI (gr1 rfl ⟨rfl, hJ, M.fr⟩))))
theorem cR (A : Option Addr) (c : Nat) (l : List (List UInt8)) (w : World) (hl : l.length ≤ 4611686018427387904) (f : FuncId) (cs : List Value) (p : List UInt8 → Bool) (hP : PredJ prog f cs str l (fun _ => p) AV (fun _ _ => True) w) (hR : Rd w A (l.length * 1) (AK BW l)) :
 Calls prog 29 #[.slice A l.length c, .func (.func f) #[] cs.toArray] w fun e w' => e = .returned (.bool (l.any p)) ∧ Fr0 w w' :=
 (cJ A c l hl f cs (fun _ => p) AV (fun _ _ => True) w hP (fun _ hf => hR.fr0 hf) trivial).mono fun _ _ ⟨h1, _, h2⟩ => ⟨by rw [h1, JB], h2⟩
def JE (m : Md) (i : In) (next k : Int) : Bool := (if (((((((decide ((0 : Int) ≤ next)) && (decide (next ≤ (2147483647 : Int)))) && (decide ((0 : Int) ≤ k))) && (decide (k ≤ (1099511627776 : Int)))) && (decide (i.mdl = m.id))) && (decide ((1 : Int) ≤ i.id))) && (decide (i.id ≤ next))) = true then (FZ i.vars m.vars) else false)
def P1 (m : Md) (i : In) (next k : Int) : Bool := (if (decide ((i.st.toNat : Int) = (1 : Int))) = true then ((JE m i next k) && (decide ((0 : Int) < ((i.toks.length : Nat) : Int)))) else (if ((decide ((i.st.toNat : Int) = (2 : Int))) || (decide ((i.st.toNat : Int) = (3 : Int)))) = true then ((JE m i next k) && (decide (((i.toks.length : Nat) : Int) = (0 : Int)))) else false))
def MK (m : Md) (c : CrA) (i : In) (next k : Int) (b1 : Bool) (j : Nat) (y : Tk) : Bool := (if b1 = true then (if (decide ((1 : Int) ≤ y.id)) = true then (if (decide (y.id ≤ next)) = true then (if (!decide (y.id = i.id)) = true then (if (decide (((j : Nat) : Int) = (0 : Int))) = true then (if (EO m c y) = true then (MY y k) else false) else (if (decide ((aZ i j) < y.id)) = true then (if (EO m c y) = true then (MY y k) else false) else false)) else false) else false) else false) else false)
def jL (c : CrA) (i : In) (x : El) : Bool := (if (decide ((x.kind.toNat : Int) = (6 : Int))) = true then (!(List.any (c.ins x.id) (fun f => !(onP i.toks f)))) else false)
theorem pY {m : Md} {i : In} {next k : Int} (h : P1 m i next k = true) : 0 ≤ k ∧ k ≤ 1099511627776 := by
 have h0 : JE m i next k = true := by
  cases hc : JE m i next k with
  | true => rfl
  | false => unfold P1 at h; rw [hc] at h; simp at h
 unfold JE at h0
 repeat' split at h0
 all_goals first
  | (simp_all; done)
  | (simp_all; omega)
def XW (m : Md) (c : CrA) (i : In) (next k : Int) (b0 : Bool) : Nat → Bool
 | 0 => b0
 | j + 1 => match i.toks[j]? with
  | some y => MK m c i next k (XW m c i next k b0 j) j y
  | none => XW m c i next k b0 j
theorem pX {m : Md} {c : CrA} {i : In} {next k : Int} {b1 : Bool} {j : Nat} {y : Tk} (h : MK m c i next k b1 j y = true) : b1 = true := by
 cases b1 with
 | true => rfl
 | false => unfold MK at h; simp at h
def GZ (m : Md) (c : CrA) (i : In) (next k : Int) : Bool := XW m c i next k (P1 m i next k) i.toks.length && m.els.all (fun x => !(jL c i x))
theorem WM (m : Md) (gc : Nat) (c : CrA) (F : List Nat) (i : In) (V T : Option Addr) (vc tc : Nat) (next k : Int) (w : World) (ho : MdOk m) (hC : CourseN w m gc c F) (hil : ∀ q, (c.ins q).length ≤ 400) (htl : i.toks.length ≤ 1000000) (hok : BdOk i.vars) (hwk : ∀ t ∈ i.toks, (t.worker.length : Int) < 4611686018427387904) (hV : Rd w V (i.vars.length * 5) (AK Bd.cells i.vars)) (hT : Rd w T (i.toks.length * 9) (AK Tk.cells i.toks)) (hY : Lay0 w) :
 Calls prog 9 #[pg gc, .agg (In.cells i V T vc tc).toArray, .int .i64 next, .int .i64 k] w fun e w' => e = .returned (.int .i64 (if GZ m c i next k = true then 0 else 1)) ∧ Fr0 w w' := by
 have hne := ho.nels
 refine C2 func9 ntmps9 rfl fun M => srg (CN M rfl rfl fun g5 w1 hg5 M => yb rfl (nq (AD (srg (yb rfl (ya rfl (JP rfl rfl rfl (pt rfl)) (nq (CK rfl ?_))))))))
 refine AL (AA (AD (NS ([(0, pg gc), (2, .int .i64 next), (3, .int .i64 k), (5, pg g5), (9, .bool (JE m i next k))]) (fun w' => Mem w AV [As.blk g5 29 (In.cells i V T vc tc)] w') ?_ (fun kj3 => ?_))))
 ·intro w2 M
  refine AA (AD (AD (AB (yb rfl (BA M 0 rfl rfl rfl (AC (AA (NS ([(0, pg gc), (2, .int .i64 next), (3, .int .i64 k), (5, pg g5), (9, .bool (P1 m i next k))]) (fun w' => Mem w AV [As.blk g5 29 (In.cells i V T vc tc)] w') ?_ (fun kj0 => ?_)))))))))
  ·intro w3 M
   refine AA (srg (I3 M (AF rfl) rfl rfl rfl fun g79 w4 hg79 M => DG M (AF rfl) rfl rfl 86 rfl [.map none] GU rfl fun g10 w5 hg10 M => gp1 M 0 rfl rfl rfl GV fun w6 M => nq (AD (srg (yb rfl (BA M 2 rfl rfl rfl ?_))))))
   refine ya rfl (C7 rfl rfl (sl rfl)) (yb rfl (nq (AR (flp [82, 81, 10, 5, 3, 2, 0] (fun ze e wr mz => ∃ (j : Nat) (b1 : Bool) (L1 : List (List UInt8 × Value)), e = (9, .bool b1) :: (83, .int .i64 ((j : Nat) : Int)) :: ze ∧ Mem w AV [As.blk g10 86 [.map (some g79)], As.mp g79 L1, As.blk g5 29 (In.cells i V T vc tc)] wr ∧ (j ≤ i.toks.length) ∧ (b1 = XW m c i next k (P1 m i next k) j) ∧ (b1 = true → 0 ≤ k ∧ k ≤ 1099511627776) ∧ (∀ q, (CQ L1 q).getD (.bool false) = .bool (onP (i.toks.take j) q)) ∧ mz = i.toks.length - j) ⟨0, (P1 m i next k), [], rfl, M, Nat.zero_le _, by first | rfl | (unfold P1; rfl), fun h => pY (by first | exact h | (unfold P1; exact h)), fun _ => rfl, rfl⟩ ?_))))
   rintro _ w7 _ ⟨j, b1, L1, rfl, M, hj, hbE, hbk, hon, rfl⟩
   refine AD (AB (CB rfl rfl (AC (AA (AD (AN rfl (fun h84 => ?_) (fun h84 => ?_)))))))
   ·have h84p := (odt h84)
    refine AL (AA (AD (AR (srg (yb rfl ?_)))))
    obtain ⟨y, hy⟩ := CA (l := i.toks) (i := j) AO
    obtain ⟨b_y, o_y, hA_y⟩ := BI (k := 9) AO (hT.fr0 M.fr) hy
    refine ya rfl (B1 j hA_y rfl rfl rfl (sl rfl) AO) (ya rfl (AT rfl rfl (BQ Tk.len (hT.fr0 M.fr) hA_y hy) underlying43 rfl BB) (D6 M rfl EX fun g12 w8 hg12 M => yb rfl (C1 M 0 rfl rfl BB rfl fun w9 M => AC (AA (AD (NS ([(0, pg gc), (2, .int .i64 next), (3, .int .i64 k), (5, pg g5), (9, .bool (MK m c i next k b1 j y)), (10, pg g10), (12, pg g12), (81, .slice T i.toks.length tc), (82, .int .i64 ((i.toks.length : Nat) : Int)), (83, .int .i64 ((j : Nat) : Int))]) (fun w' => Mem w AV [As.blk g12 43 (Tk.cells y), As.blk g10 86 [.map (some g79)], As.mp g79 L1, As.blk g5 29 (In.cells i V T vc tc)] w') ?_ (fun kr15 => ?_)))))))
    ·intro  w10 M
     refine AA (AB (BA M 1 rfl rfl rfl (yb rfl (BA M 0 rfl rfl rfl (FS M 2 (AF rfl) rfl rfl rfl rfl rfl underlying86 underlying9 rfl fun w11 M => AC (AH (AA (AB (ya rfl (BF rfl rfl rfl AO) (yb rfl (AC (fag ⟨j + 1, (MK m c i next k b1 j y), DJ L1 y.on (.bool true), rfl, (M.pk [1, 2, 3]), ?_, ?_, ?_, ?_, rfl⟩))))))))))))
     ·omega
     ·rw [hbE, XW, hy]
     ·exact fun h => hbk (pX h)
     ·exact oS hon (B2 hy)
    refine CO 47 (fun w' => Mem w AV [As.blk g12 43 (Tk.cells y), As.blk g10 86 [.map (some g79)], As.mp g79 L1, As.blk g5 29 (In.cells i V T vc tc)] w') CU ?_
    have M := M.drew
    refine oc 0 47 rfl rfl M (oc 1 47 rfl rfl M (EH (d := 89) rfl (fun h89 => ?_) (fun h89 => ?_)))
    ·refine ob 2 47 rfl (BD rfl rfl rfl) rfl rfl M (fun _ M => yp rfl) (ob 3 47 rfl (BD rfl rfl rfl) rfl rfl M (fun _ M => BU rfl rfl (sc rfl) (M.cell 0 rfl rfl)) (ob 4 47 rfl (BD rfl rfl rfl) rfl rfl M (fun _ M => FG rfl rfl rfl) (oc 5 47 rfl rfl M (oc 6 47 rfl rfl M (EH (d := 94) rfl (fun h94 => ?_) (fun h94 => ?_))))))
     ·have h94p := (odt h94)
      refine ob 7 47 rfl (BD rfl rfl rfl) rfl rfl M (fun _ M => yp rfl) (ob 8 47 rfl (BD rfl rfl rfl) rfl rfl M (fun _ M => BU rfl rfl (sc rfl) (M.cell 0 rfl rfl)) (ob 9 47 rfl (BD rfl rfl rfl) rfl rfl M (fun _ M => yp rfl) (ob 10 47 rfl (BD rfl rfl rfl) rfl rfl M (fun _ M => GL rfl rfl rfl) (oc 11 47 rfl rfl M (oc 12 47 rfl rfl M (EH (d := 100) rfl (fun h100 => ?_) (fun h100 => ?_)))))))
      ·have h100p := (odt h100)
       refine ob 13 47 rfl (BD rfl rfl rfl) rfl rfl M (fun _ M => yp rfl) (ob 14 47 rfl (BD rfl rfl rfl) rfl rfl M (fun _ M => BU rfl rfl (sc rfl) (M.cell 0 rfl rfl)) (ob 15 47 rfl (BD rfl rfl rfl) rfl rfl M (fun _ M => yp rfl) (ob 16 47 rfl (BD rfl rfl rfl) rfl rfl M (fun _ M => BU rfl rfl (sc rfl) (M.cell 3 rfl rfl)) (ob 17 47 rfl (BD rfl rfl rfl) rfl rfl M (fun _ M => DC rfl rfl rfl) (oc 18 47 rfl rfl M (oc 19 47 rfl rfl M (EH (d := 107) rfl (fun h107 => ?_) (fun h107 => ?_))))))))
       ·have h107p := (odf (CE h107))
        refine ob 20 47 rfl (BD rfl rfl rfl) rfl rfl M (fun _ M => yp rfl) (ob 21 47 rfl (BD rfl rfl rfl) rfl rfl M (fun _ M => C3 rfl rfl rfl) (ob 22 47 rfl (BD rfl rfl rfl) rfl rfl M (fun _ M => yp rfl) (EH (d := 110) rfl (fun h110 => ?_) (fun h110 => ?_))))
        ·refine C5 23 47 rfl M (C5 24 47 rfl M (C5 25 47 rfl M (C5 26 47 rfl M (C5 27 47 rfl M (C5 28 47 rfl M (C5 29 47 rfl M (C5 30 47 rfl M (C5 31 47 rfl M (C5 32 47 rfl M (ob 33 47 rfl (BD rfl rfl rfl) rfl rfl M (fun _ M => yp rfl) (oc 34 47 rfl rfl M (oc 35 47 rfl rfl M (ob 36 47 rfl (BD rfl rfl rfl) rfl rfl M (fun _ M => yp rfl) (ob 37 47 rfl (BD rfl rfl rfl) rfl rfl M (fun _ M => AT (xs := Tk.cells y) rfl rfl (M.rdBlk 0 rfl rfl) underlying43 rfl BB) (C0 38 (some 126) gkr rfl (BD rfl rfl rfl) rfl rfl (AQ rfl rfl call27) (QU m gc c F y _ ho (hC.fr0 M.fr)) ?_)))))))))))))))
         rintro _ w12 ⟨rfl, hfw12⟩
         refine ⟨_, rfl, fun _ => M.step hfw12, ?_⟩
         have M := M.step hfw12
         refine oc 39 47 rfl rfl M (oc 40 47 rfl rfl M (EH (d := 128) rfl (fun h128 => ?_) (fun h128 => ?_)))
         ·refine ob 41 47 rfl (BD rfl rfl rfl) rfl rfl M (fun _ M => yp rfl) (ob 42 47 rfl (BD rfl rfl rfl) rfl rfl M (fun _ M => AT (xs := Tk.cells y) rfl rfl (M.rdBlk 0 rfl rfl) underlying43 rfl BB) (ob 43 47 rfl (BD rfl rfl rfl) rfl rfl M (fun _ M => yp rfl) (C0 44 (some 132) gkr rfl (BD rfl rfl rfl) rfl rfl (AQ rfl rfl call28) (V4 gc y k _ (hwk y (List.mem_of_getElem? hy)) (hbk h89)) ?_)))
          rintro _ w13 ⟨rfl, hfw13⟩
          refine ⟨_, rfl, fun _ => M.step hfw13, ?_⟩
          have M := M.step hfw13
          exact oc 45 47 rfl rfl M (oc 46 47 rfl rfl M (fdn (kr15  _ _ M ⟨rfl, rfl, rfl, rfl, (by rw [MK, if_pos h89, if_pos h94, if_pos h100, if_pos h107, if_pos h110, if_pos h128]; rfl), rfl, rfl, rfl, rfl, rfl, trivial⟩)))
         ·exact C5 41 47 rfl M (C5 42 47 rfl M (C5 43 47 rfl M (C5 44 47 rfl M (oc 45 47 rfl rfl M (oc 46 47 rfl rfl M (fdn (kr15  _ _ M ⟨rfl, rfl, rfl, rfl, (by rw [MK, if_pos h89, if_pos h94, if_pos h100, if_pos h107, if_pos h110, if_neg (AS h128)]; rfl), rfl, rfl, rfl, rfl, rfl, trivial⟩)))))))
        ·have h110p := (odf h110)
         refine ob 23 47 rfl (BD rfl rfl rfl) rfl rfl M (fun _ M => yp rfl) (ob 24 47 rfl (BD rfl rfl rfl) rfl rfl M (fun _ M => BU rfl rfl (sc rfl) (M.cell 3 rfl rfl)) (ob 25 47 rfl (BD rfl rfl rfl) rfl rfl M (fun _ M => yp rfl) (ob 26 47 rfl (BD rfl rfl rfl) rfl rfl M (fun _ M => EN (a := j) (b := 1) rfl rfl rfl AO AO) ?_)))
         obtain ⟨y2, hy2⟩ := CA (l := i.toks) (i := j - 1) AO
         obtain ⟨b_y2, o_y2, hA_y2⟩ := BI (k := 9) AO (hT.fr0 M.fr) hy2
         refine ob 27 47 rfl (BD rfl rfl rfl) rfl rfl M (fun _ M => B1 (j - 1) hA_y2 rfl rfl rfl (sl rfl) AO) (ob 28 47 rfl (BD rfl rfl rfl) rfl rfl M (fun _ M => yp rfl) ?_)
         have hpd : aZ i j = y2.id := by unfold aZ; rw [hy2]; rfl
         refine ob 29 47 rfl (BD rfl rfl rfl) rfl rfl M (fun _ M => BU rfl rfl (sc rfl) (hpd ▸ DO Tk.len (hT.fr0 M.fr) hA_y2 hy2 0 rfl)) (ob 30 47 rfl (BD rfl rfl rfl) rfl rfl M (fun _ M => yp rfl) (ob 31 47 rfl (BD rfl rfl rfl) rfl rfl M (fun _ M => BU rfl rfl (sc rfl) (M.cell 0 rfl rfl)) (ob 32 47 rfl (BD rfl rfl rfl) rfl rfl M (fun _ M => E9 rfl rfl rfl) (ob 33 47 rfl (BD rfl rfl rfl) rfl rfl M (fun _ M => yp rfl) (oc 34 47 rfl rfl M (oc 35 47 rfl rfl M (EH (d := 123) rfl (fun h123 => ?_) (fun h123 => ?_))))))))
         ·refine ob 36 47 rfl (BD rfl rfl rfl) rfl rfl M (fun _ M => yp rfl) (ob 37 47 rfl (BD rfl rfl rfl) rfl rfl M (fun _ M => AT (xs := Tk.cells y) rfl rfl (M.rdBlk 0 rfl rfl) underlying43 rfl BB) (C0 38 (some 126) gkr rfl (BD rfl rfl rfl) rfl rfl (AQ rfl rfl call27) (QU m gc c F y _ ho (hC.fr0 M.fr)) ?_))
          rintro _ w14 ⟨rfl, hfw14⟩
          refine ⟨_, rfl, fun _ => M.step hfw14, ?_⟩
          have M := M.step hfw14
          refine oc 39 47 rfl rfl M (oc 40 47 rfl rfl M (EH (d := 128) rfl (fun h128 => ?_) (fun h128 => ?_)))
          ·refine ob 41 47 rfl (BD rfl rfl rfl) rfl rfl M (fun _ M => yp rfl) (ob 42 47 rfl (BD rfl rfl rfl) rfl rfl M (fun _ M => AT (xs := Tk.cells y) rfl rfl (M.rdBlk 0 rfl rfl) underlying43 rfl BB) (ob 43 47 rfl (BD rfl rfl rfl) rfl rfl M (fun _ M => yp rfl) (C0 44 (some 132) gkr rfl (BD rfl rfl rfl) rfl rfl (AQ rfl rfl call28) (V4 gc y k _ (hwk y (List.mem_of_getElem? hy)) (hbk h89)) ?_)))
           rintro _ w15 ⟨rfl, hfw15⟩
           refine ⟨_, rfl, fun _ => M.step hfw15, ?_⟩
           have M := M.step hfw15
           exact oc 45 47 rfl rfl M (oc 46 47 rfl rfl M (fdn (kr15  _ _ M ⟨rfl, rfl, rfl, rfl, (by rw [MK, if_pos h89, if_pos h94, if_pos h100, if_pos h107, if_neg (AS h110), if_pos h123, if_pos h128]; rfl), rfl, rfl, rfl, rfl, rfl, trivial⟩)))
          ·exact C5 41 47 rfl M (C5 42 47 rfl M (C5 43 47 rfl M (C5 44 47 rfl M (oc 45 47 rfl rfl M (oc 46 47 rfl rfl M (fdn (kr15  _ _ M ⟨rfl, rfl, rfl, rfl, (by rw [MK, if_pos h89, if_pos h94, if_pos h100, if_pos h107, if_neg (AS h110), if_pos h123, if_neg (AS h128)]; rfl), rfl, rfl, rfl, rfl, rfl, trivial⟩)))))))
         ·exact C5 36 47 rfl M (C5 37 47 rfl M (C5 38 47 rfl M (oc 39 47 rfl rfl M (oc 40 47 rfl rfl M (C5 41 47 rfl M (C5 42 47 rfl M (C5 43 47 rfl M (C5 44 47 rfl M (oc 45 47 rfl rfl M (oc 46 47 rfl rfl M (fdn (kr15  _ _ M ⟨rfl, rfl, rfl, rfl, (by rw [MK, if_pos h89, if_pos h94, if_pos h100, if_pos h107, if_neg (AS h110), if_neg (AS h123)]; rfl), rfl, rfl, rfl, rfl, rfl, trivial⟩))))))))))))
       ·refine C5 20 47 rfl M (C5 21 47 rfl M (C5 22 47 rfl M (EM 23 47 rfl rfl M (EM 24 47 rfl rfl M (EM 25 47 rfl rfl M (EM 26 47 rfl rfl M (EM 27 47 rfl rfl M (EM 28 47 rfl rfl M (EM 29 47 rfl rfl M (EM 30 47 rfl rfl M (EM 31 47 rfl rfl M (EM 32 47 rfl rfl M (C5 33 47 rfl M (oc 34 47 rfl rfl M (oc 35 47 rfl rfl M ?_)))))))))))))))
        exact C5 36 47 rfl M (C5 37 47 rfl M (C5 38 47 rfl M (oc 39 47 rfl rfl M (oc 40 47 rfl rfl M (C5 41 47 rfl M (C5 42 47 rfl M (C5 43 47 rfl M (C5 44 47 rfl M (oc 45 47 rfl rfl M (oc 46 47 rfl rfl M (fdn (kr15  _ _ M ⟨rfl, rfl, rfl, rfl, (by rw [MK, if_pos h89, if_pos h94, if_pos h100, if_neg (AS h107)]; rfl), rfl, rfl, rfl, rfl, rfl, trivial⟩))))))))))))
      ·refine C5 13 47 rfl M (C5 14 47 rfl M (C5 15 47 rfl M (C5 16 47 rfl M (C5 17 47 rfl M (oc 18 47 rfl rfl M (oc 19 47 rfl rfl M (C5 20 47 rfl M (C5 21 47 rfl M (C5 22 47 rfl M (EM 23 47 rfl rfl M (EM 24 47 rfl rfl M (EM 25 47 rfl rfl M (EM 26 47 rfl rfl M (EM 27 47 rfl rfl M (EM 28 47 rfl rfl M ?_)))))))))))))))
       refine EM 29 47 rfl rfl M (EM 30 47 rfl rfl M (EM 31 47 rfl rfl M (EM 32 47 rfl rfl M (C5 33 47 rfl M (oc 34 47 rfl rfl M (oc 35 47 rfl rfl M (C5 36 47 rfl M (C5 37 47 rfl M (C5 38 47 rfl M (oc 39 47 rfl rfl M (oc 40 47 rfl rfl M (C5 41 47 rfl M (C5 42 47 rfl M (C5 43 47 rfl M (C5 44 47 rfl M ?_)))))))))))))))
       exact oc 45 47 rfl rfl M (oc 46 47 rfl rfl M (fdn (kr15  _ _ M ⟨rfl, rfl, rfl, rfl, (by rw [MK, if_pos h89, if_pos h94, if_neg (AS h100)]; rfl), rfl, rfl, rfl, rfl, rfl, trivial⟩)))
     ·refine C5 7 47 rfl M (C5 8 47 rfl M (C5 9 47 rfl M (C5 10 47 rfl M (oc 11 47 rfl rfl M (oc 12 47 rfl rfl M (C5 13 47 rfl M (C5 14 47 rfl M (C5 15 47 rfl M (C5 16 47 rfl M (C5 17 47 rfl M (oc 18 47 rfl rfl M (oc 19 47 rfl rfl M (C5 20 47 rfl M (C5 21 47 rfl M (C5 22 47 rfl M ?_)))))))))))))))
      refine EM 23 47 rfl rfl M (EM 24 47 rfl rfl M (EM 25 47 rfl rfl M (EM 26 47 rfl rfl M (EM 27 47 rfl rfl M (EM 28 47 rfl rfl M (EM 29 47 rfl rfl M (EM 30 47 rfl rfl M (EM 31 47 rfl rfl M (EM 32 47 rfl rfl M (C5 33 47 rfl M (oc 34 47 rfl rfl M (oc 35 47 rfl rfl M (C5 36 47 rfl M (C5 37 47 rfl M (C5 38 47 rfl M ?_)))))))))))))))
      exact oc 39 47 rfl rfl M (oc 40 47 rfl rfl M (C5 41 47 rfl M (C5 42 47 rfl M (C5 43 47 rfl M (C5 44 47 rfl M (oc 45 47 rfl rfl M (oc 46 47 rfl rfl M (fdn (kr15  _ _ M ⟨rfl, rfl, rfl, rfl, (by rw [MK, if_pos h89, if_neg (AS h94)]; rfl), rfl, rfl, rfl, rfl, rfl, trivial⟩)))))))))
    ·refine C5 2 47 rfl M (C5 3 47 rfl M (C5 4 47 rfl M (oc 5 47 rfl rfl M (oc 6 47 rfl rfl M (C5 7 47 rfl M (C5 8 47 rfl M (C5 9 47 rfl M (C5 10 47 rfl M (oc 11 47 rfl rfl M (oc 12 47 rfl rfl M (C5 13 47 rfl M (C5 14 47 rfl M (C5 15 47 rfl M (C5 16 47 rfl M (C5 17 47 rfl M ?_)))))))))))))))
     refine oc 18 47 rfl rfl M (oc 19 47 rfl rfl M (C5 20 47 rfl M (C5 21 47 rfl M (C5 22 47 rfl M (EM 23 47 rfl rfl M (EM 24 47 rfl rfl M (EM 25 47 rfl rfl M (EM 26 47 rfl rfl M (EM 27 47 rfl rfl M (EM 28 47 rfl rfl M (EM 29 47 rfl rfl M (EM 30 47 rfl rfl M (EM 31 47 rfl rfl M (EM 32 47 rfl rfl M (C5 33 47 rfl M ?_)))))))))))))))
     exact oc 34 47 rfl rfl M (oc 35 47 rfl rfl M (C5 36 47 rfl M (C5 37 47 rfl M (C5 38 47 rfl M (oc 39 47 rfl rfl M (oc 40 47 rfl rfl M (C5 41 47 rfl M (C5 42 47 rfl M (C5 43 47 rfl M (C5 44 47 rfl M (oc 45 47 rfl rfl M (oc 46 47 rfl rfl M (fdn (kr15  _ _ M ⟨rfl, rfl, rfl, rfl, (by rw [MK, if_neg (AS h89)]; rfl), rfl, rfl, rfl, rfl, rfl, trivial⟩))))))))))))))
   ·have h84p := (odf h84)
    refine BG (AJ (AJ ?_))
    obtain rfl : j = i.toks.length := by omega
    rw [List.take_length] at hon
    refine AY (AA (AD (srg ?_)))
    iterate 4 refine yb rfl ?_
    refine yl rfl rfl (Blk.c ((hC.fr0 M.fr).blk) 3 rfl) (ya rfl (C7 rfl rfl (sl rfl)) (yb rfl (nq (AR (flp [143, 142, 10, 0] (fun ze e wr mz => ∃ (q : Nat) (b2 : Bool), e = (9, .bool b2) :: (144, .int .i64 ((q : Nat) : Int)) :: ze ∧ Mem w AV [As.blk g10 86 [.map (some g79)], As.mp g79 L1, As.blk g5 29 (In.cells i V T vc tc)] wr ∧ (q ≤ m.els.length) ∧ (b2 = (b1 && (m.els.take q).all (fun x => !(jL c i x)))) ∧ mz = m.els.length - q) ⟨0, b1, rfl, M, Nat.zero_le _, (Bool.and_true _).symm, rfl⟩ ?_)))))
    rintro _ w16 _ ⟨q, b2, rfl, M, hq, hb2, rfl⟩
    refine AD (AB (CB rfl rfl (AC (AA (AD (AN rfl (fun h145 => ?_) (fun h145 => ?_)))))))
    ·have h145p := (odt h145)
     refine AL (AA (AD (AR (srg ?_))))
     obtain ⟨x, hx⟩ := CA (l := m.els) (i := q) AO
     obtain ⟨b_x, o_x, hA_x⟩ := BI (k := 11) AO ((hC.fr0 M.fr).md.md.els) hx
     refine ya rfl (B1 q hA_x rfl rfl rfl (sl rfl) AO) (ya rfl (AT rfl rfl (BQ El.len ((hC.fr0 M.fr).md.md.els) hA_x hx) underlying69 rfl AZ) (D6 M rfl B4 fun g14 w17 hg14 M => C1 M 0 rfl rfl AZ rfl fun w18 M => AC (AA (AD (NS ([(0, pg gc), (9, .bool b2), (10, pg g10), (142, .slice c.a.E m.els.length c.a.ec), (143, .int .i64 ((m.els.length : Nat) : Int)), (144, .int .i64 ((q : Nat) : Int)), (162, .bool (jL c i x))]) (fun w' => Mem w AV [As.blk g14 69 (El.cells x), As.blk g10 86 [.map (some g79)], As.mp g79 L1, As.blk g5 29 (In.cells i V T vc tc)] w') ?_ (fun kj21 => ?_))))))
     ·intro w19 M
      refine AA (AN rfl (fun h162 => ?_) (fun h162 => ?_))
      ·refine AB (yb rfl (AC (AH (AA (AB (ya rfl (BF rfl rfl rfl AO) (yb rfl (AC (fag ⟨q + 1, false, rfl, (M.pk [1, 2, 3]), ?_, ?_, rfl⟩)))))))))
       ·omega
       ·rw [B2 hx, List.all_append]
        first
         | (rw [hb2]; simp [h162]; done)
         | simp [h162]
      ·refine AL (AH (AA (AB (ya rfl (BF rfl rfl rfl AO) (yb rfl (AC (fag ⟨q + 1, b2, rfl, (M.pk [1, 2, 3]), ?_, ?_, rfl⟩)))))))
       ·omega
       ·rw [B2 hx, List.all_append]
        first
         | (rw [hb2]; simp [h162]; done)
         | simp [h162]
     refine DN 12 CU gkr ?_
     have M := M.drew
     refine sb rfl (FK M 0 rfl rfl rfl (sa rfl (C3 rfl rfl rfl) (sb rfl (E7 (d := 151) rfl (fun h151 => ?_) (fun h151 => ?_)))))
     ·have h151p := (odt h151)
      refine gsg rfl (yp rfl) (gsg rfl (yp rfl) (gsg rfl (yp rfl) (gsg rfl (BU rfl rfl (sc rfl) (Blk.c ((hC.fr0 M.fr).blk) 7 rfl)) (gsg rfl (yp rfl) (gsg rfl (BU rfl rfl (sc rfl) (M.cell 0 rfl rfl)) (gsg rfl (BP rfl rfl rfl underlying64 underlying9 DE ((hC.fr0 M.fr).I) (hC.getI _)) (gsg rfl (D9 (us := []) (vs := [pg g10]) rfl rfl rfl) (CS (B0 (some 160) (BD rfl rfl rfl) rfl rfl (AQ rfl rfl call29) (cR (MI (FD c.LI x.id)) (X9 (FD c.LI x.id)) (c.ins x.id) _ (by have := hil x.id; omega) 30 [pg g10] (fun f => !(onP i.toks f)) (GI call30 (fun f _ w9 hf9 => cL i.toks g10 g79 L1 f w9 ((M.blk 1 rfl).fr0 hf9) (Mp.fr (M.mp 2 rfl) hf9 (fun hh => hh)) hon)) ((hC.fr0 M.fr).rdI _)) ?_)))))))))
      rintro _ w20 ⟨rfl, hfw20⟩
      refine ⟨_, rfl, ?_⟩
      have M := M.step hfw20
      exact gyq rfl (yb rfl (AC (kj21 _ _ M ⟨rfl, rfl, rfl, rfl, rfl, rfl, (by rw [jL, if_pos h151]; rfl), trivial⟩)))
     ·iterate 8 refine E3 rfl rfl rfl rfl rfl rfl ?_
      exact CS (yo rfl (yo rfl (yb rfl (AC (kj21 _ _ M ⟨rfl, rfl, rfl, rfl, rfl, rfl, (by rw [jL, if_neg (AS h151)]; rfl), trivial⟩)))))
    ·have h145p := (odf h145)
     refine BG (AJ (AJ ?_))
     obtain rfl : q = m.els.length := by omega
     rw [List.take_length] at hb2
     refine AY (AA (AD (AD (AB (yb rfl (yb rfl (AC (AA (AN rfl (fun h165 => ?_) (fun h165 => ?_))))))))))
     ·exact srg (yb rfl (nq (AI (AE (gr1 rfl ⟨by rw [GZ, ← hbE, ← hb2, if_neg (by rw [CE h165]; decide)], M.fr⟩)))))
     ·exact AL (AA (srg (yb rfl (nq (AI (gr1 rfl ⟨by rw [GZ, ← hbE, ← hb2, if_pos (BM h165)], M.fr⟩))))))
  refine AR (AD (AB (CI rfl rfl (yb rfl (AC (AA (AN rfl (fun h60 => ?_) (fun h60 => ?_))))))))
  ·refine AB (yb rfl (yb rfl (fvm M 5 [9, 5, 3, 2, 0] [(68, .bool ((JE m i next k) && (decide ((0 : Int) < ((i.toks.length : Nat) : Int)))))] ?_ (fun k63 => ?_))))
   ·intro w21 M
    exact yb rfl (AC (AH (kj0 _ _ M ⟨rfl, rfl, rfl, rfl, (by rw [P1, if_pos h60]; rfl), trivial⟩)))
   refine AP (d := 63) rfl (fun h63 => ?_) (fun h63 => ?_)
   ·exact gyq rfl (CH M 0 rfl rfl rfl (yd rfl (C7 rfl rfl (sl rfl)) (yd rfl (G6 rfl rfl rfl) (yb rfl (k63 M ⟨rfl, rfl, rfl, rfl, rfl, (by rw [h63]; rfl), trivial⟩)))))
   ·iterate 4 refine yo rfl ?_
    exact yb rfl (k63 M ⟨rfl, rfl, rfl, rfl, rfl, (by rw [h63]; rfl), trivial⟩)
  ·refine AD (AD (AB (CI rfl rfl (yb rfl (AC (AA (IK [(0, pg gc), (2, .int .i64 next), (3, .int .i64 k), (5, pg g5), (9, .bool (JE m i next k)), (69, .bool ((decide ((i.st.toNat : Int) = (2 : Int))) || (decide ((i.st.toNat : Int) = (3 : Int)))))] (fun w' => Mem w AV [As.blk g5 29 (In.cells i V T vc tc)] w') ?_ (fun k69 => ?_))))))))
   ·intro w22 M
    refine AA (AN rfl (fun h69 => ?_) (fun h69 => ?_))
    ·have h69p := ((EJ h69).imp (fun z => (odt z)) (fun z => (odt z)))
     refine AB (yb rfl (yb rfl (fvm M 5 [9, 5, 3, 2, 0] [(78, .bool ((JE m i next k) && (decide (((i.toks.length : Nat) : Int) = (0 : Int)))))] ?_ (fun k73 => ?_))))
     ·intro w23 M
      exact yb rfl (AC (AH (kj0 _ _ M ⟨rfl, rfl, rfl, rfl, (by rw [P1, if_neg (AS h60), if_pos h69]; rfl), trivial⟩)))
     refine AP (d := 73) rfl (fun h73 => ?_) (fun h73 => ?_)
     ·exact gyq rfl (CH M 0 rfl rfl rfl (yd rfl (C7 rfl rfl (sl rfl)) (yd rfl (C3 rfl rfl rfl) (yb rfl (k73 M ⟨rfl, rfl, rfl, rfl, rfl, (by rw [h73]; rfl), trivial⟩)))))
     ·iterate 4 refine yo rfl ?_
      exact yb rfl (k73 M ⟨rfl, rfl, rfl, rfl, rfl, (by rw [h73]; rfl), trivial⟩)
    ·exact AB (yb rfl (AC (AH (kj0 _ _ M ⟨rfl, rfl, rfl, rfl, (by rw [P1, if_neg (AS h60), if_neg (AS h69)]; rfl), trivial⟩))))
   refine AN rfl (fun h69 => ?_) (fun h69 => ?_)
   ·exact AL (k69 _ _ M ⟨rfl, rfl, rfl, rfl, rfl, (by rw [h69]; rfl), trivial⟩)
   ·exact AB (CI rfl rfl (yb rfl (AC (k69 _ _ M ⟨rfl, rfl, rfl, rfl, rfl, (by rw [h69]; rfl), trivial⟩))))
 refine DN 39 CU gkr ?_
 have M := M.drew
 refine sb rfl (sa rfl (FG rfl rfl rfl) (sb rfl (fvs 3 [5, 3, 2, 0] [(22, .bool ((decide ((0 : Int) ≤ next)) && (decide (next ≤ (2147483647 : Int)))))] ?_ (fun k19 => ?_))))
 ·refine sb rfl (fvs 3 [5, 3, 2, 0] [(26, .bool (((decide ((0 : Int) ≤ next)) && (decide (next ≤ (2147483647 : Int)))) && (decide ((0 : Int) ≤ k))))] ?_ (fun k23 => ?_))
  ·refine sb rfl (fvs 3 [5, 3, 2, 0] [(30, .bool ((((decide ((0 : Int) ≤ next)) && (decide (next ≤ (2147483647 : Int)))) && (decide ((0 : Int) ≤ k))) && (decide (k ≤ (1099511627776 : Int)))))] ?_ (fun k27 => ?_))
   ·refine sb rfl (fvs 9 [5, 3, 2, 0] [(40, .bool (((((decide ((0 : Int) ≤ next)) && (decide (next ≤ (2147483647 : Int)))) && (decide ((0 : Int) ≤ k))) && (decide (k ≤ (1099511627776 : Int)))) && (decide (i.mdl = m.id))))] ?_ (fun k31 => ?_))
    ·refine sb rfl (fvs 4 [5, 3, 2, 0] [(45, .bool ((((((decide ((0 : Int) ≤ next)) && (decide (next ≤ (2147483647 : Int)))) && (decide ((0 : Int) ≤ k))) && (decide (k ≤ (1099511627776 : Int)))) && (decide (i.mdl = m.id))) && (decide ((1 : Int) ≤ i.id))))] ?_ (fun k41 => ?_))
     ·refine sb rfl (fvs 5 [5, 3, 2, 0] [(51, .bool (((((((decide ((0 : Int) ≤ next)) && (decide (next ≤ (2147483647 : Int)))) && (decide ((0 : Int) ≤ k))) && (decide (k ≤ (1099511627776 : Int)))) && (decide (i.mdl = m.id))) && (decide ((1 : Int) ≤ i.id))) && (decide (i.id ≤ next))))] ?_ (fun k46 => ?_))
      ·refine sb rfl (E7 (d := 52) rfl (fun h52 => ?_) (fun h52 => ?_))
       ·refine gsg rfl (yp rfl) (gsg rfl (yp rfl) (gsg rfl (BU rfl rfl (sc rfl) (M.cell 0 rfl rfl)) (CS (B0 (some 56) (BD rfl rfl rfl) rfl rfl (AQ rfl rfl call26) (YJ m gc c F i.vars V vc _ (hC.fr0 M.fr) hok (hV.fr0 M.fr) (hY.fr0 M.fr)) ?_))))
        rintro _ w24 ⟨rfl, hfw24⟩
        refine ⟨_, rfl, ?_⟩
        have M := M.step hfw24
        exact yb rfl (yb rfl (AC (kj3 _ _ M ⟨rfl, rfl, rfl, rfl, (by rw [JE, if_pos h52]; rfl), trivial⟩)))
       ·have h52p := ((DM h52).imp (fun z => ((DM z).imp (fun z => ((DM z).imp (fun z => ((DM z).imp (fun z => ((DM z).imp (fun z => ((DM z).imp (fun z => (odf z)) (fun z => (odf z)))) (fun z => (odf z)))) (fun z => (odf z)))) (fun z => (odf z)))) (fun z => (odf z)))) (fun z => (odf z)))
        exact E3 rfl rfl rfl rfl rfl rfl (E3 rfl rfl rfl rfl rfl rfl (E3 rfl rfl rfl rfl rfl rfl (CS (yo rfl (yb rfl (yb rfl (AC (kj3 _ _ M ⟨rfl, rfl, rfl, rfl, (by rw [JE, if_neg (AS h52)]; rfl), trivial⟩))))))))
      refine E7 (d := 46) rfl (fun h46 => ?_) (fun h46 => ?_)
      ·exact gsg rfl (yp rfl) (gsg rfl (BU rfl rfl (sc rfl) (M.cell 0 rfl rfl)) (gsg rfl (yp rfl) (gsg rfl (GL rfl rfl rfl) (sb rfl (k46 _ ⟨rfl, rfl, rfl, rfl, (by rw [h46]; rfl), trivial⟩)))))
      ·iterate 4 refine E3 rfl rfl rfl rfl rfl rfl ?_
       exact sb rfl (k46 _ ⟨rfl, rfl, rfl, rfl, (by rw [h46]; rfl), trivial⟩)
     refine E7 (d := 41) rfl (fun h41 => ?_) (fun h41 => ?_)
     ·exact gsg rfl (yp rfl) (gsg rfl (BU rfl rfl (sc rfl) (M.cell 0 rfl rfl)) (gsg rfl (FG rfl rfl rfl) (sb rfl (k41 _ ⟨rfl, rfl, rfl, rfl, (by rw [h41]; rfl), trivial⟩))))
     ·exact E3 rfl rfl rfl rfl rfl rfl (E3 rfl rfl rfl rfl rfl rfl (E3 rfl rfl rfl rfl rfl rfl (sb rfl (k41 _ ⟨rfl, rfl, rfl, rfl, (by rw [h41]; rfl), trivial⟩))))
    refine E7 (d := 31) rfl (fun h31 => ?_) (fun h31 => ?_)
    ·refine gsg rfl (yp rfl) (gsg rfl (BU rfl rfl (sc rfl) (M.cell 0 rfl rfl)) ?_)
     iterate 4 refine gsg rfl (yp rfl) ?_
     exact gsg rfl (BU rfl rfl (sc rfl) (Blk.c ((hC.fr0 M.fr).blk) 0 rfl)) (gsg rfl (D8 rfl rfl rfl) (sb rfl (k31 _ ⟨rfl, rfl, rfl, rfl, (by rw [h31]; rfl), trivial⟩)))
    ·iterate 8 refine E3 rfl rfl rfl rfl rfl rfl ?_
     exact sb rfl (k31 _ ⟨rfl, rfl, rfl, rfl, (by rw [h31]; rfl), trivial⟩)
   refine E7 (d := 27) rfl (fun h27 => ?_) (fun h27 => ?_)
   ·exact gsg rfl (yp rfl) (gsg rfl (GL rfl rfl rfl) (sb rfl (k27 _ ⟨rfl, rfl, rfl, rfl, (by rw [h27]; rfl), trivial⟩)))
   ·exact E3 rfl rfl rfl rfl rfl rfl (E3 rfl rfl rfl rfl rfl rfl (sb rfl (k27 _ ⟨rfl, rfl, rfl, rfl, (by rw [h27]; rfl), trivial⟩)))
  refine E7 (d := 23) rfl (fun h23 => ?_) (fun h23 => ?_)
  ·exact gsg rfl (yp rfl) (gsg rfl (FG rfl rfl rfl) (sb rfl (k23 _ ⟨rfl, rfl, rfl, rfl, (by rw [h23]; rfl), trivial⟩)))
  ·exact E3 rfl rfl rfl rfl rfl rfl (E3 rfl rfl rfl rfl rfl rfl (sb rfl (k23 _ ⟨rfl, rfl, rfl, rfl, (by rw [h23]; rfl), trivial⟩)))
 refine E7 (d := 19) rfl (fun h19 => ?_) (fun h19 => ?_)
 ·exact gsg rfl (yp rfl) (gsg rfl (GL rfl rfl rfl) (sb rfl (k19 _ ⟨rfl, rfl, rfl, rfl, (by rw [h19]; rfl), trivial⟩)))
 ·exact E3 rfl rfl rfl rfl rfl rfl (E3 rfl rfl rfl rfl rfl rfl (sb rfl (k19 _ ⟨rfl, rfl, rfl, rfl, (by rw [h19]; rfl), trivial⟩)))
end Go.Proofs.YtjaocmocdhckaaaGreatDoor
