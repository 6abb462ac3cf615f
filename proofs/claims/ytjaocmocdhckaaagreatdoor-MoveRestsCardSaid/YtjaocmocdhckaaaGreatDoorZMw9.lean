/- Lemmas that the last text rests on. Condition: each says its own. -/
import Derived.Test.YtjaocmocdhckaaaGreatDoorZMw8
set_option maxHeartbeats 16000000
set_option maxRecDepth 100000
namespace Go.Proofs.YtjaocmocdhckaaaGreatDoor
open Go.RowKit
open Tryz
def onP (l : List Tk) (q : List UInt8) : Bool := l.any fun t => decide (t.on = q)
theorem q9 {l l' : List Tk} {L : List (List UInt8 × Value)} {y : Tk} (h : ∀ q, (CU L q).getD (.bool false) = .bool (onP l q)) (hl : l' = l ++ [y]) : ∀ q, (CU (DN L y.on (.bool true)) q).getD (.bool false) = .bool (onP l' q) := fun q => by
 rw [hl, G7]
 unfold onP
 rw [List.any_append]
 by_cases hq : q = y.on
 ·rw [if_pos hq, hq]; simp
 ·have : ¬ y.on = q := fun e => hq e.symm
  rw [if_neg hq, h q]; unfold onP; simp [this]
def UK (i : In) (j : Nat) : Int := ((i.toks[j - 1]?).map (·.id)).getD 0
theorem dL (l : List Tk) (g10 g79 : Nat) (L : List (List UInt8 × Value)) (f : List UInt8) (w : World) (hb : Blk w g10 86 [.map (some g79)]) (hm : Mp w g79 L) (hon : ∀ q, (CU L q).getD (.bool false) = .bool (onP l q)) :
 Calls prog 30 #[str f, pg g10] w (CG w (.bool (!(onP l f)))) := by
 refine C5 func30 ntmps30 rfl fun M => srg (AY rfl (srg (yl rfl rfl (Blk.c (hb.fr0 M.fr) 0 rfl) (yb rfl (ya rfl (BT rfl rfl rfl underlying86 underlying9 O0 (Mp.fr hm M.fr (fun hh => hh)) (hon f)) (BM rfl rfl (gnr ?_)))))))
 exact gr1 rfl ⟨rfl, M.fr⟩
theorem dG (A : Option Addr) (c : Nat) (l : List (List UInt8)) (hl : l.length ≤ 4611686018427387904) (f : FuncId) (cs : List Value) (p : Nat → (List UInt8) → Bool) (S : Nat → Prop) (J : Nat → World → Prop) (w : World) (hP : PredJ prog f cs str l p S J w) (hR : ∀ w1, Fr S w w1 → Rd w1 A (l.length * 1) (AH BY l)) (hJ : J 0 w) :
 Calls prog 29 #[.slice A l.length c, .func (.func f) #[] cs.toArray] w fun e w' => e = .returned (.bool (decide (0 ≤ ixJ p 0 l))) ∧ J (ixN p 0 l) w' ∧ Fr S w w' := by
 refine BE (vs := [_, _]) func29 rfl ntmps29 rfl ?_
 have M : Mem w S [] w := Mem.nil w
 refine srg (AY rfl (AQ rfl (yb rfl (cl 7 rfl (AP rfl rfl call68) (WQ A c l hl f cs p S J _ hP hR hJ) ?_))))
 rintro _ w9 ⟨rfl, hJ, hf9⟩
 refine ⟨_, rfl, ?_⟩
 have M : Mem w S [] w9 := Mem.ofFr hf9
 exact RX rfl rfl (yb rfl (gnr (gr1 rfl ⟨rfl, hJ, M.fr⟩)))
theorem dS (A : Option Addr) (c : Nat) (l : List (List UInt8)) (w : World) (hl : l.length ≤ 4611686018427387904) (f : FuncId) (cs : List Value) (p : List UInt8 → Bool) (hP : PredJ prog f cs str l (fun _ => p) B0 (fun _ _ => True) w) (hR : Rd w A (l.length * 1) (AH BY l)) :
 Calls prog 29 #[.slice A l.length c, .func (.func f) #[] cs.toArray] w (CG w (.bool (l.any p))) :=
 (dG A c l hl f cs (fun _ => p) B0 (fun _ _ => True) w hP (fun _ hf => hR.fr0 hf) trivial).mono fun _ _ ⟨h1, _, h2⟩ => ⟨by rw [h1, JS], h2⟩
def HZ (m : Md) (i : In) (next k : Int) : Bool := (if (((((((decide ((0 : Int) ≤ next)) && (decide (next ≤ (2147483647 : Int)))) && (decide ((0 : Int) ≤ k))) && (decide (k ≤ (1099511627776 : Int)))) && (decide (i.mdl = m.id))) && (decide ((1 : Int) ≤ i.id))) && (decide (i.id ≤ next))) = true then (HO i.vars m.vars) else false)
def MG (m : Md) (i : In) (next k : Int) : Bool := (if (decide ((i.st.toNat : Int) = (1 : Int))) = true then ((HZ m i next k) && (decide ((0 : Int) < ((i.toks.length : Nat) : Int)))) else (if ((decide ((i.st.toNat : Int) = (2 : Int))) || (decide ((i.st.toNat : Int) = (3 : Int)))) = true then ((HZ m i next k) && (decide (((i.toks.length : Nat) : Int) = (0 : Int)))) else false))
def KH (m : Md) (c : CrA) (i : In) (next k : Int) (b1 : Bool) (j : Nat) (y : Tk) : Bool := (if b1 = true then (if (decide ((1 : Int) ≤ y.id)) = true then (if (decide (y.id ≤ next)) = true then (if (!decide (y.id = i.id)) = true then (if (decide (((j : Nat) : Int) = (0 : Int))) = true then (if (E1 m c y) = true then (IO y k) else false) else (if (decide ((UK i j) < y.id)) = true then (if (E1 m c y) = true then (IO y k) else false) else false)) else false) else false) else false) else false)
def dJ (c : CrA) (i : In) (x : El) : Bool := (if (decide ((x.kind.toNat : Int) = (6 : Int))) = true then (!(List.any (c.ins x.id) (fun f => !(onP i.toks f)))) else false)
theorem r7 {m : Md} {i : In} {next k : Int} (h : MG m i next k = true) : 0 ≤ k ∧ k ≤ 1099511627776 := by
 have h0 : HZ m i next k = true := by
  cases hc : HZ m i next k with
  | true => rfl
  | false => unfold MG at h; rw [hc] at h; simp at h
 unfold HZ at h0
 repeat' split at h0
 all_goals first
  | (simp_all; done)
  | (simp_all; omega)
def PU (m : Md) (c : CrA) (i : In) (next k : Int) (b0 : Bool) : Nat → Bool
 | 0 => b0
 | j + 1 => match i.toks[j]? with
  | some y => KH m c i next k (PU m c i next k b0 j) j y
  | none => PU m c i next k b0 j
theorem kN {m : Md} {c : CrA} {i : In} {next k : Int} {b1 : Bool} {j : Nat} {y : Tk} (h : KH m c i next k b1 j y = true) : b1 = true := by
 cases b1 with
 | true => rfl
 | false => unfold KH at h; simp at h
def GD (m : Md) (c : CrA) (i : In) (next k : Int) : Bool := PU m c i next k (MG m i next k) i.toks.length && m.els.all (fun x => !(dJ c i x))
theorem XH (m : Md) (gc : Nat) (c : CrA) (F : List Nat) (i : In) (V T : Option Addr) (vc tc : Nat) (next k : Int) (w : World) (ho : MdOk m) (hC : CourseN w m gc c F) (hil : ∀ q, (c.ins q).length ≤ 400) (htl : i.toks.length ≤ 1000000) (hok : BdOk i.vars) (hwk : ∀ t ∈ i.toks, (t.worker.length : Int) < 4611686018427387904) (hV : Rd w V (i.vars.length * 5) (AH Bd.cells i.vars)) (hT : Rd w T (i.toks.length * 9) (AH Tk.cells i.toks)) (hY : Lay0 w) :
 Calls prog 9 #[pg gc, .agg (In.cells i V T vc tc).toArray, AJ next, AJ k] w (CG w (AJ (if GD m c i next k = true then 0 else 1))) := by
 have hne := ho.nels
 refine C5 func9 ntmps9 rfl fun M => srg (CR M rfl rfl fun g5 w1 hg5 M => AY rfl (AF (AQ rfl (ya rfl (J5 rfl rfl rfl (pt rfl)) (nq (D8 rfl ?_))))))
 refine AI (AD (AF (OE ([(0, pg gc), (2, AJ next), (3, AJ k), (5, pg g5), (9, .bool (HZ m i next k))]) (fun w' => Mem w B0 [As.blk g5 29 (In.cells i V T vc tc)] w') ?_ (fun kj3 => ?_))))
 ·intro w2 M
  refine AD (AF (AQ rfl (BC M 0 rfl rfl rfl (nq (OE ([(0, pg gc), (2, AJ next), (3, AJ k), (5, pg g5), (9, .bool (MG m i next k))]) (fun w' => Mem w B0 [As.blk g5 29 (In.cells i V T vc tc)] w') ?_ (fun kj0 => ?_))))))
  ·intro w3 M
   refine AD (srg (ID M (AA rfl) rfl rfl rfl fun g79 w4 hg79 M => DJ M (AA rfl) rfl rfl 86 rfl [.map none] HB rfl fun g10 w5 hg10 M => gp1 M 0 rfl rfl rfl HC fun w6 M => nq (AF (AQ rfl (BC M 2 rfl rfl rfl ?_)))))
   refine ya rfl (C3 rfl rfl (sl rfl)) (AY rfl (AS (flp [82, 81, 10, 5, 3, 2, 0] (fun ze e wr mz => ∃ (j : Nat) (b1 : Bool) (L1 : List (List UInt8 × Value)), e = (9, .bool b1) :: (83, AJ ((j : Nat) : Int)) :: ze ∧ Mem w B0 [As.blk g10 86 [.map (some g79)], As.mp g79 L1, As.blk g5 29 (In.cells i V T vc tc)] wr ∧ (j ≤ i.toks.length) ∧ (b1 = PU m c i next k (MG m i next k) j) ∧ (b1 = true → 0 ≤ k ∧ k ≤ 1099511627776) ∧ (∀ q, (CU L1 q).getD (.bool false) = .bool (onP (i.toks.take j) q)) ∧ mz = i.toks.length - j) ⟨0, (MG m i next k), [], rfl, M, Nat.zero_le _, by first | rfl | (unfold MG; rfl), fun h => r7 (by first | exact h | (unfold MG; exact h)), fun _ => rfl, rfl⟩ ?_)))
   rintro _ w7 _ ⟨j, b1, L1, rfl, M, hj, hbE, hbk, hon, rfl⟩
   refine srg (CF rfl rfl (nq (AF (AL rfl (fun h84 => ?_) (fun h84 => ?_)))))
   ·have h84p := (odt h84)
    refine AI (AD (AF (AS (AQ rfl ?_))))
    obtain ⟨y, hy⟩ := CC (l := i.toks) (i := j) AM
    obtain ⟨b_y, o_y, hA_y⟩ := BI (k := 9) AM (hT.fr0 M.fr) hy
    refine ya rfl (B1 j hA_y rfl rfl rfl (sl rfl) AM) (ya rfl (AU rfl rfl (BV Tk.len (hT.fr0 M.fr) hA_y hy) underlying43 rfl BD) (DC M rfl FE fun g12 w8 hg12 M => yb rfl (C4 M 0 rfl rfl BD rfl fun w9 M => nq (AF (OE ([(0, pg gc), (2, AJ next), (3, AJ k), (5, pg g5), (9, .bool (KH m c i next k b1 j y)), (10, pg g10), (12, pg g12), (81, .slice T i.toks.length tc), (82, AJ ((i.toks.length : Nat) : Int)), (83, AJ ((j : Nat) : Int))]) (fun w' => Mem w B0 [As.blk g12 43 (Tk.cells y), As.blk g10 86 [.map (some g79)], As.mp g79 L1, As.blk g5 29 (In.cells i V T vc tc)] w') ?_ (fun kr15 => ?_))))))
    ·intro  w10 M
     refine AD (AK (BC M 1 rfl rfl rfl (yb rfl (BC M 0 rfl rfl rfl (FZ M 2 (AA rfl) rfl rfl rfl rfl rfl underlying86 underlying9 rfl fun w11 M => AR (AE (AD (AK (ya rfl (BO rfl rfl rfl AM) (yb rfl (AR (fag ⟨j + 1, (KH m c i next k b1 j y), DN L1 y.on (.bool true), rfl, (M.pk [1, 2, 3]), ?_, ?_, ?_, ?_, rfl⟩))))))))))))
     ·omega
     ·rw [hbE, PU, hy]
     ·exact fun h => hbk (kN h)
     ·exact q9 hon (B4 hy)
    refine CV 47 (fun w' => Mem w B0 [As.blk g12 43 (Tk.cells y), As.blk g10 86 [.map (some g79)], As.mp g79 L1, As.blk g5 29 (In.cells i V T vc tc)] w') CZ ?_
    have M := M.drew
    refine oc 0 47 rfl rfl M (oc 1 47 rfl rfl M (EK (d := 89) rfl (fun h89 => ?_) (fun h89 => ?_)))
    ·refine ob 2 47 rfl (BG rfl rfl rfl) rfl rfl M (fun _ M => yp rfl) (ob 3 47 rfl (BG rfl rfl rfl) rfl rfl M (fun _ M => BW rfl rfl (sc rfl) (M.cell 0 rfl rfl)) (ob 4 47 rfl (BG rfl rfl rfl) rfl rfl M (fun _ M => FQ rfl rfl rfl) (oc 5 47 rfl rfl M (oc 6 47 rfl rfl M (EK (d := 94) rfl (fun h94 => ?_) (fun h94 => ?_))))))
     ·have h94p := (odt h94)
      refine ob 7 47 rfl (BG rfl rfl rfl) rfl rfl M (fun _ M => yp rfl) (ob 8 47 rfl (BG rfl rfl rfl) rfl rfl M (fun _ M => BW rfl rfl (sc rfl) (M.cell 0 rfl rfl)) (ob 9 47 rfl (BG rfl rfl rfl) rfl rfl M (fun _ M => yp rfl) (ob 10 47 rfl (BG rfl rfl rfl) rfl rfl M (fun _ M => GP rfl rfl rfl) (oc 11 47 rfl rfl M (oc 12 47 rfl rfl M (EK (d := 100) rfl (fun h100 => ?_) (fun h100 => ?_)))))))
      ·have h100p := (odt h100)
       refine ob 13 47 rfl (BG rfl rfl rfl) rfl rfl M (fun _ M => yp rfl) (ob 14 47 rfl (BG rfl rfl rfl) rfl rfl M (fun _ M => BW rfl rfl (sc rfl) (M.cell 0 rfl rfl)) (ob 15 47 rfl (BG rfl rfl rfl) rfl rfl M (fun _ M => yp rfl) (ob 16 47 rfl (BG rfl rfl rfl) rfl rfl M (fun _ M => BW rfl rfl (sc rfl) (M.cell 3 rfl rfl)) (ob 17 47 rfl (BG rfl rfl rfl) rfl rfl M (fun _ M => E4 rfl rfl rfl) (oc 18 47 rfl rfl M (oc 19 47 rfl rfl M (EK (d := 107) rfl (fun h107 => ?_) (fun h107 => ?_))))))))
       ·have h107p := (odf (CK h107))
        refine ob 20 47 rfl (BG rfl rfl rfl) rfl rfl M (fun _ M => yp rfl) (ob 21 47 rfl (BG rfl rfl rfl) rfl rfl M (fun _ M => BZ rfl rfl rfl) (ob 22 47 rfl (BG rfl rfl rfl) rfl rfl M (fun _ M => yp rfl) (EK (d := 110) rfl (fun h110 => ?_) (fun h110 => ?_))))
        ·refine C9 23 47 rfl M (C9 24 47 rfl M (C9 25 47 rfl M (C9 26 47 rfl M (C9 27 47 rfl M (C9 28 47 rfl M (C9 29 47 rfl M (C9 30 47 rfl M (C9 31 47 rfl M (C9 32 47 rfl M (ob 33 47 rfl (BG rfl rfl rfl) rfl rfl M (fun _ M => yp rfl) (oc 34 47 rfl rfl M (oc 35 47 rfl rfl M (ob 36 47 rfl (BG rfl rfl rfl) rfl rfl M (fun _ M => yp rfl) (ob 37 47 rfl (BG rfl rfl rfl) rfl rfl M (fun _ M => AU (xs := Tk.cells y) rfl rfl (M.rdBlk 0 rfl rfl) underlying43 rfl BD) (C7 38 (some 126) gkr rfl (BG rfl rfl rfl) rfl rfl (AP rfl rfl call27) (RJ m gc c F y _ ho (hC.fr0 M.fr)) ?_)))))))))))))))
         rintro _ w12 ⟨rfl, hfw12⟩
         refine ⟨_, rfl, fun _ => M.step hfw12, ?_⟩
         have M := M.step hfw12
         refine oc 39 47 rfl rfl M (oc 40 47 rfl rfl M (EK (d := 128) rfl (fun h128 => ?_) (fun h128 => ?_)))
         ·refine ob 41 47 rfl (BG rfl rfl rfl) rfl rfl M (fun _ M => yp rfl) (ob 42 47 rfl (BG rfl rfl rfl) rfl rfl M (fun _ M => AU (xs := Tk.cells y) rfl rfl (M.rdBlk 0 rfl rfl) underlying43 rfl BD) (ob 43 47 rfl (BG rfl rfl rfl) rfl rfl M (fun _ M => yp rfl) (C7 44 (some 132) gkr rfl (BG rfl rfl rfl) rfl rfl (AP rfl rfl call28) (VV gc y k _ (hwk y (List.mem_of_getElem? hy)) (hbk h89)) ?_)))
          rintro _ w13 ⟨rfl, hfw13⟩
          refine ⟨_, rfl, fun _ => M.step hfw13, ?_⟩
          have M := M.step hfw13
          exact oc 45 47 rfl rfl M (oc 46 47 rfl rfl M (fdn (kr15  _ _ M ⟨rfl, rfl, rfl, rfl, (by rw [KH, if_pos h89, if_pos h94, if_pos h100, if_pos h107, if_pos h110, if_pos h128]; rfl), rfl, rfl, rfl, rfl, rfl, trivial⟩)))
         ·exact C9 41 47 rfl M (C9 42 47 rfl M (C9 43 47 rfl M (C9 44 47 rfl M (oc 45 47 rfl rfl M (oc 46 47 rfl rfl M (fdn (kr15  _ _ M ⟨rfl, rfl, rfl, rfl, (by rw [KH, if_pos h89, if_pos h94, if_pos h100, if_pos h107, if_pos h110, AT h128]; rfl), rfl, rfl, rfl, rfl, rfl, trivial⟩)))))))
        ·have h110p := (odf h110)
         refine ob 23 47 rfl (BG rfl rfl rfl) rfl rfl M (fun _ M => yp rfl) (ob 24 47 rfl (BG rfl rfl rfl) rfl rfl M (fun _ M => BW rfl rfl (sc rfl) (M.cell 3 rfl rfl)) (ob 25 47 rfl (BG rfl rfl rfl) rfl rfl M (fun _ M => yp rfl) (ob 26 47 rfl (BG rfl rfl rfl) rfl rfl M (fun _ M => EV (a := j) (b := 1) rfl rfl rfl AM AM) ?_)))
         obtain ⟨y2, hy2⟩ := CC (l := i.toks) (i := j - 1) AM
         obtain ⟨b_y2, o_y2, hA_y2⟩ := BI (k := 9) AM (hT.fr0 M.fr) hy2
         refine ob 27 47 rfl (BG rfl rfl rfl) rfl rfl M (fun _ M => B1 (j - 1) hA_y2 rfl rfl rfl (sl rfl) AM) (ob 28 47 rfl (BG rfl rfl rfl) rfl rfl M (fun _ M => yp rfl) ?_)
         have hpd : UK i j = y2.id := by unfold UK; rw [hy2]; rfl
         refine ob 29 47 rfl (BG rfl rfl rfl) rfl rfl M (fun _ M => BW rfl rfl (sc rfl) (hpd ▸ DQ Tk.len (hT.fr0 M.fr) hA_y2 hy2 0 rfl)) (ob 30 47 rfl (BG rfl rfl rfl) rfl rfl M (fun _ M => yp rfl) (ob 31 47 rfl (BG rfl rfl rfl) rfl rfl M (fun _ M => BW rfl rfl (sc rfl) (M.cell 0 rfl rfl)) (ob 32 47 rfl (BG rfl rfl rfl) rfl rfl M (fun _ M => ED rfl rfl rfl) (ob 33 47 rfl (BG rfl rfl rfl) rfl rfl M (fun _ M => yp rfl) (oc 34 47 rfl rfl M (oc 35 47 rfl rfl M (EK (d := 123) rfl (fun h123 => ?_) (fun h123 => ?_))))))))
         ·refine ob 36 47 rfl (BG rfl rfl rfl) rfl rfl M (fun _ M => yp rfl) (ob 37 47 rfl (BG rfl rfl rfl) rfl rfl M (fun _ M => AU (xs := Tk.cells y) rfl rfl (M.rdBlk 0 rfl rfl) underlying43 rfl BD) (C7 38 (some 126) gkr rfl (BG rfl rfl rfl) rfl rfl (AP rfl rfl call27) (RJ m gc c F y _ ho (hC.fr0 M.fr)) ?_))
          rintro _ w14 ⟨rfl, hfw14⟩
          refine ⟨_, rfl, fun _ => M.step hfw14, ?_⟩
          have M := M.step hfw14
          refine oc 39 47 rfl rfl M (oc 40 47 rfl rfl M (EK (d := 128) rfl (fun h128 => ?_) (fun h128 => ?_)))
          ·refine ob 41 47 rfl (BG rfl rfl rfl) rfl rfl M (fun _ M => yp rfl) (ob 42 47 rfl (BG rfl rfl rfl) rfl rfl M (fun _ M => AU (xs := Tk.cells y) rfl rfl (M.rdBlk 0 rfl rfl) underlying43 rfl BD) (ob 43 47 rfl (BG rfl rfl rfl) rfl rfl M (fun _ M => yp rfl) (C7 44 (some 132) gkr rfl (BG rfl rfl rfl) rfl rfl (AP rfl rfl call28) (VV gc y k _ (hwk y (List.mem_of_getElem? hy)) (hbk h89)) ?_)))
           rintro _ w15 ⟨rfl, hfw15⟩
           refine ⟨_, rfl, fun _ => M.step hfw15, ?_⟩
           have M := M.step hfw15
           exact oc 45 47 rfl rfl M (oc 46 47 rfl rfl M (fdn (kr15  _ _ M ⟨rfl, rfl, rfl, rfl, (by rw [KH, if_pos h89, if_pos h94, if_pos h100, if_pos h107, AT h110, if_pos h123, if_pos h128]; rfl), rfl, rfl, rfl, rfl, rfl, trivial⟩)))
          ·exact C9 41 47 rfl M (C9 42 47 rfl M (C9 43 47 rfl M (C9 44 47 rfl M (oc 45 47 rfl rfl M (oc 46 47 rfl rfl M (fdn (kr15  _ _ M ⟨rfl, rfl, rfl, rfl, (by rw [KH, if_pos h89, if_pos h94, if_pos h100, if_pos h107, AT h110, if_pos h123, AT h128]; rfl), rfl, rfl, rfl, rfl, rfl, trivial⟩)))))))
         ·exact C9 36 47 rfl M (C9 37 47 rfl M (C9 38 47 rfl M (oc 39 47 rfl rfl M (oc 40 47 rfl rfl M (C9 41 47 rfl M (C9 42 47 rfl M (C9 43 47 rfl M (C9 44 47 rfl M (oc 45 47 rfl rfl M (oc 46 47 rfl rfl M (fdn (kr15  _ _ M ⟨rfl, rfl, rfl, rfl, (by rw [KH, if_pos h89, if_pos h94, if_pos h100, if_pos h107, AT h110, AT h123]; rfl), rfl, rfl, rfl, rfl, rfl, trivial⟩))))))))))))
       ·refine C9 20 47 rfl M (C9 21 47 rfl M (C9 22 47 rfl M (EU 23 47 rfl rfl M (EU 24 47 rfl rfl M (EU 25 47 rfl rfl M (EU 26 47 rfl rfl M (EU 27 47 rfl rfl M (EU 28 47 rfl rfl M (EU 29 47 rfl rfl M (EU 30 47 rfl rfl M (EU 31 47 rfl rfl M (EU 32 47 rfl rfl M (C9 33 47 rfl M (oc 34 47 rfl rfl M (oc 35 47 rfl rfl M ?_)))))))))))))))
        exact C9 36 47 rfl M (C9 37 47 rfl M (C9 38 47 rfl M (oc 39 47 rfl rfl M (oc 40 47 rfl rfl M (C9 41 47 rfl M (C9 42 47 rfl M (C9 43 47 rfl M (C9 44 47 rfl M (oc 45 47 rfl rfl M (oc 46 47 rfl rfl M (fdn (kr15  _ _ M ⟨rfl, rfl, rfl, rfl, (by rw [KH, if_pos h89, if_pos h94, if_pos h100, AT h107]; rfl), rfl, rfl, rfl, rfl, rfl, trivial⟩))))))))))))
      ·refine C9 13 47 rfl M (C9 14 47 rfl M (C9 15 47 rfl M (C9 16 47 rfl M (C9 17 47 rfl M (oc 18 47 rfl rfl M (oc 19 47 rfl rfl M (C9 20 47 rfl M (C9 21 47 rfl M (C9 22 47 rfl M (EU 23 47 rfl rfl M (EU 24 47 rfl rfl M (EU 25 47 rfl rfl M (EU 26 47 rfl rfl M (EU 27 47 rfl rfl M (EU 28 47 rfl rfl M ?_)))))))))))))))
       refine EU 29 47 rfl rfl M (EU 30 47 rfl rfl M (EU 31 47 rfl rfl M (EU 32 47 rfl rfl M (C9 33 47 rfl M (oc 34 47 rfl rfl M (oc 35 47 rfl rfl M (C9 36 47 rfl M (C9 37 47 rfl M (C9 38 47 rfl M (oc 39 47 rfl rfl M (oc 40 47 rfl rfl M (C9 41 47 rfl M (C9 42 47 rfl M (C9 43 47 rfl M (C9 44 47 rfl M ?_)))))))))))))))
       exact oc 45 47 rfl rfl M (oc 46 47 rfl rfl M (fdn (kr15  _ _ M ⟨rfl, rfl, rfl, rfl, (by rw [KH, if_pos h89, if_pos h94, AT h100]; rfl), rfl, rfl, rfl, rfl, rfl, trivial⟩)))
     ·refine C9 7 47 rfl M (C9 8 47 rfl M (C9 9 47 rfl M (C9 10 47 rfl M (oc 11 47 rfl rfl M (oc 12 47 rfl rfl M (C9 13 47 rfl M (C9 14 47 rfl M (C9 15 47 rfl M (C9 16 47 rfl M (C9 17 47 rfl M (oc 18 47 rfl rfl M (oc 19 47 rfl rfl M (C9 20 47 rfl M (C9 21 47 rfl M (C9 22 47 rfl M ?_)))))))))))))))
      refine EU 23 47 rfl rfl M (EU 24 47 rfl rfl M (EU 25 47 rfl rfl M (EU 26 47 rfl rfl M (EU 27 47 rfl rfl M (EU 28 47 rfl rfl M (EU 29 47 rfl rfl M (EU 30 47 rfl rfl M (EU 31 47 rfl rfl M (EU 32 47 rfl rfl M (C9 33 47 rfl M (oc 34 47 rfl rfl M (oc 35 47 rfl rfl M (C9 36 47 rfl M (C9 37 47 rfl M (C9 38 47 rfl M ?_)))))))))))))))
      exact oc 39 47 rfl rfl M (oc 40 47 rfl rfl M (C9 41 47 rfl M (C9 42 47 rfl M (C9 43 47 rfl M (C9 44 47 rfl M (oc 45 47 rfl rfl M (oc 46 47 rfl rfl M (fdn (kr15  _ _ M ⟨rfl, rfl, rfl, rfl, (by rw [KH, if_pos h89, AT h94]; rfl), rfl, rfl, rfl, rfl, rfl, trivial⟩)))))))))
    ·refine C9 2 47 rfl M (C9 3 47 rfl M (C9 4 47 rfl M (oc 5 47 rfl rfl M (oc 6 47 rfl rfl M (C9 7 47 rfl M (C9 8 47 rfl M (C9 9 47 rfl M (C9 10 47 rfl M (oc 11 47 rfl rfl M (oc 12 47 rfl rfl M (C9 13 47 rfl M (C9 14 47 rfl M (C9 15 47 rfl M (C9 16 47 rfl M (C9 17 47 rfl M ?_)))))))))))))))
     refine oc 18 47 rfl rfl M (oc 19 47 rfl rfl M (C9 20 47 rfl M (C9 21 47 rfl M (C9 22 47 rfl M (EU 23 47 rfl rfl M (EU 24 47 rfl rfl M (EU 25 47 rfl rfl M (EU 26 47 rfl rfl M (EU 27 47 rfl rfl M (EU 28 47 rfl rfl M (EU 29 47 rfl rfl M (EU 30 47 rfl rfl M (EU 31 47 rfl rfl M (EU 32 47 rfl rfl M (C9 33 47 rfl M ?_)))))))))))))))
     exact oc 34 47 rfl rfl M (oc 35 47 rfl rfl M (C9 36 47 rfl M (C9 37 47 rfl M (C9 38 47 rfl M (oc 39 47 rfl rfl M (oc 40 47 rfl rfl M (C9 41 47 rfl M (C9 42 47 rfl M (C9 43 47 rfl M (C9 44 47 rfl M (oc 45 47 rfl rfl M (oc 46 47 rfl rfl M (fdn (kr15  _ _ M ⟨rfl, rfl, rfl, rfl, (by rw [KH, AT h89]; rfl), rfl, rfl, rfl, rfl, rfl, trivial⟩))))))))))))))
   ·have h84p := (odf h84)
    refine BF (AG (AG ?_))
    obtain rfl : j = i.toks.length := by omega
    rw [List.take_length] at hon
    refine AV (AD (AF (srg ?_)))
    iterate 4 refine yb rfl ?_
    refine yl rfl rfl (Blk.c ((hC.fr0 M.fr).blk) 3 rfl) (ya rfl (C3 rfl rfl (sl rfl)) (AY rfl (AS (flp [143, 142, 10, 0] (fun ze e wr mz => ∃ (q : Nat) (b2 : Bool), e = (9, .bool b2) :: (144, AJ ((q : Nat) : Int)) :: ze ∧ Mem w B0 [As.blk g10 86 [.map (some g79)], As.mp g79 L1, As.blk g5 29 (In.cells i V T vc tc)] wr ∧ (q ≤ m.els.length) ∧ (b2 = (b1 && (m.els.take q).all (fun x => !(dJ c i x)))) ∧ mz = m.els.length - q) ⟨0, b1, rfl, M, Nat.zero_le _, (Bool.and_true _).symm, rfl⟩ ?_))))
    rintro _ w16 _ ⟨q, b2, rfl, M, hq, hb2, rfl⟩
    refine srg (CF rfl rfl (nq (AF (AL rfl (fun h145 => ?_) (fun h145 => ?_)))))
    ·have h145p := (odt h145)
     refine AI (AD (AF (AS (srg ?_))))
     obtain ⟨x, hx⟩ := CC (l := m.els) (i := q) AM
     obtain ⟨b_x, o_x, hA_x⟩ := BI (k := 11) AM ((hC.fr0 M.fr).md.md.els) hx
     refine ya rfl (B1 q hA_x rfl rfl rfl (sl rfl) AM) (ya rfl (AU rfl rfl (BV El.len ((hC.fr0 M.fr).md.md.els) hA_x hx) underlying69 rfl B2) (DC M rfl B6 fun g14 w17 hg14 M => C4 M 0 rfl rfl B2 rfl fun w18 M => nq (AF (OE ([(0, pg gc), (9, .bool b2), (10, pg g10), (142, .slice c.a.E m.els.length c.a.ec), (143, AJ ((m.els.length : Nat) : Int)), (144, AJ ((q : Nat) : Int)), (162, .bool (dJ c i x))]) (fun w' => Mem w B0 [As.blk g14 69 (El.cells x), As.blk g10 86 [.map (some g79)], As.mp g79 L1, As.blk g5 29 (In.cells i V T vc tc)] w') ?_ (fun kj21 => ?_)))))
     ·intro w19 M
      refine AD (AL rfl (fun h162 => ?_) (fun h162 => ?_))
      ·refine AK (yb rfl (AR (AE (AD (AK (ya rfl (BO rfl rfl rfl AM) (yb rfl (AR (fag ⟨q + 1, false, rfl, (M.pk [1, 2, 3]), ?_, ?_, rfl⟩)))))))))
       ·omega
       ·rw [B4 hx, List.all_append]
        first
         | (rw [hb2]; simp [h162]; done)
         | simp [h162]
      ·refine AI (AE (AD (AK (ya rfl (BO rfl rfl rfl AM) (yb rfl (AR (fag ⟨q + 1, b2, rfl, (M.pk [1, 2, 3]), ?_, ?_, rfl⟩)))))))
       ·omega
       ·rw [B4 hx, List.all_append]
        first
         | (rw [hb2]; simp [h162]; done)
         | simp [h162]
     refine DP 12 CZ gkr ?_
     have M := M.drew
     refine sb rfl (FL M 0 rfl rfl rfl (sa rfl (BZ rfl rfl rfl) (sb rfl (DU (d := 151) rfl (fun h151 => ?_) (fun h151 => ?_)))))
     ·have h151p := (odt h151)
      refine gsg rfl (yp rfl) (gsg rfl (yp rfl) (gsg rfl (yp rfl) (gsg rfl (BW rfl rfl (sc rfl) (Blk.c ((hC.fr0 M.fr).blk) 7 rfl)) (gsg rfl (yp rfl) (gsg rfl (BW rfl rfl (sc rfl) (M.cell 0 rfl rfl)) (gsg rfl (BT rfl rfl rfl underlying64 underlying9 DH ((hC.fr0 M.fr).I) (hC.getI _)) (gsg rfl (DE (us := []) (vs := [pg g10]) rfl rfl rfl) (CS (B3 (some 160) (BG rfl rfl rfl) rfl rfl (AP rfl rfl call29) (dS (N0 (FK c.LI x.id)) (Y4 (FK c.LI x.id)) (c.ins x.id) _ (by have := hil x.id; omega) 30 [pg g10] (fun f => !(onP i.toks f)) (GN call30 (fun f _ w9 hf9 => dL i.toks g10 g79 L1 f w9 ((M.blk 1 rfl).fr0 hf9) (Mp.fr (M.mp 2 rfl) hf9 (fun hh => hh)) hon)) ((hC.fr0 M.fr).rdI _)) ?_)))))))))
      rintro _ w20 ⟨rfl, hfw20⟩
      refine ⟨_, rfl, ?_⟩
      have M := M.step hfw20
      exact gyq rfl (yb rfl (AR (kj21 _ _ M ⟨rfl, rfl, rfl, rfl, rfl, rfl, (by rw [dJ, if_pos h151]; rfl), trivial⟩)))
     ·iterate 8 refine DV rfl rfl rfl rfl rfl rfl ?_
      exact CS (yo rfl (yo rfl (yb rfl (AR (kj21 _ _ M ⟨rfl, rfl, rfl, rfl, rfl, rfl, (by rw [dJ, AT h151]; rfl), trivial⟩)))))
    ·have h145p := (odf h145)
     refine BF (AG (AG ?_))
     obtain rfl : q = m.els.length := by omega
     rw [List.take_length] at hb2
     refine AV (AD (AF (AQ rfl (AY rfl (AL rfl (fun h165 => ?_) (fun h165 => ?_))))))
     ·exact AQ rfl (gnr (AB (gr1 rfl ⟨by rw [GD, ← hbE, ← hb2, if_neg (by rw [CK h165]; decide)], M.fr⟩)))
     ·exact AI (AD (AQ rfl (gnr (gr1 rfl ⟨by rw [GD, ← hbE, ← hb2, if_pos (BQ h165)], M.fr⟩))))
  refine AS (srg (CN rfl rfl (AY rfl (AL rfl (fun h60 => ?_) (fun h60 => ?_)))))
  ·refine AK (BM rfl rfl (fvm M 5 [9, 5, 3, 2, 0] [(68, .bool ((HZ m i next k) && (decide ((0 : Int) < ((i.toks.length : Nat) : Int)))))] ?_ (fun k63 => ?_)))
   ·intro w21 M
    exact yb rfl (AR (AE (kj0 _ _ M ⟨rfl, rfl, rfl, rfl, (by rw [MG, if_pos h60]; rfl), trivial⟩)))
   refine AO (d := 63) rfl (fun h63 => ?_) (fun h63 => ?_)
   ·exact gyq rfl (CJ M 0 rfl rfl rfl (yd rfl (C3 rfl rfl (sl rfl)) (yd rfl (GC rfl rfl rfl) (yb rfl (k63 M ⟨rfl, rfl, rfl, rfl, rfl, (by rw [h63]; rfl), trivial⟩)))))
   ·iterate 4 refine yo rfl ?_
    exact yb rfl (k63 M ⟨rfl, rfl, rfl, rfl, rfl, (by rw [h63]; rfl), trivial⟩)
  ·refine AF (srg (CN rfl rfl (AY rfl (JP [(0, pg gc), (2, AJ next), (3, AJ k), (5, pg g5), (9, .bool (HZ m i next k)), (69, .bool ((decide ((i.st.toNat : Int) = (2 : Int))) || (decide ((i.st.toNat : Int) = (3 : Int)))))] (fun w' => Mem w B0 [As.blk g5 29 (In.cells i V T vc tc)] w') ?_ (fun k69 => ?_)))))
   ·intro w22 M
    refine AD (AL rfl (fun h69 => ?_) (fun h69 => ?_))
    ·have h69p := ((EO h69).imp (fun z => (odt z)) (fun z => (odt z)))
     refine AK (BM rfl rfl (fvm M 5 [9, 5, 3, 2, 0] [(78, .bool ((HZ m i next k) && (decide (((i.toks.length : Nat) : Int) = (0 : Int)))))] ?_ (fun k73 => ?_)))
     ·intro w23 M
      exact yb rfl (AR (AE (kj0 _ _ M ⟨rfl, rfl, rfl, rfl, (by rw [MG, AT h60, if_pos h69]; rfl), trivial⟩)))
     refine AO (d := 73) rfl (fun h73 => ?_) (fun h73 => ?_)
     ·exact gyq rfl (CJ M 0 rfl rfl rfl (yd rfl (C3 rfl rfl (sl rfl)) (yd rfl (BZ rfl rfl rfl) (yb rfl (k73 M ⟨rfl, rfl, rfl, rfl, rfl, (by rw [h73]; rfl), trivial⟩)))))
     ·iterate 4 refine yo rfl ?_
      exact yb rfl (k73 M ⟨rfl, rfl, rfl, rfl, rfl, (by rw [h73]; rfl), trivial⟩)
    ·exact AK (yb rfl (AR (AE (kj0 _ _ M ⟨rfl, rfl, rfl, rfl, (by rw [MG, AT h60, AT h69]; rfl), trivial⟩))))
   refine AL rfl (fun h69 => ?_) (fun h69 => ?_)
   ·exact AI (k69 _ _ M ⟨rfl, rfl, rfl, rfl, rfl, (by rw [h69]; rfl), trivial⟩)
   ·exact AK (CN rfl rfl (yb rfl (AR (k69 _ _ M ⟨rfl, rfl, rfl, rfl, rfl, (by rw [h69]; rfl), trivial⟩))))
 refine DP 39 CZ gkr ?_
 have M := M.drew
 refine sb rfl (sa rfl (FQ rfl rfl rfl) (sb rfl (fvs 3 [5, 3, 2, 0] [(22, .bool ((decide ((0 : Int) ≤ next)) && (decide (next ≤ (2147483647 : Int)))))] ?_ (fun k19 => ?_))))
 ·refine sb rfl (fvs 3 [5, 3, 2, 0] [(26, .bool (((decide ((0 : Int) ≤ next)) && (decide (next ≤ (2147483647 : Int)))) && (decide ((0 : Int) ≤ k))))] ?_ (fun k23 => ?_))
  ·refine sb rfl (fvs 3 [5, 3, 2, 0] [(30, .bool ((((decide ((0 : Int) ≤ next)) && (decide (next ≤ (2147483647 : Int)))) && (decide ((0 : Int) ≤ k))) && (decide (k ≤ (1099511627776 : Int)))))] ?_ (fun k27 => ?_))
   ·refine sb rfl (fvs 9 [5, 3, 2, 0] [(40, .bool (((((decide ((0 : Int) ≤ next)) && (decide (next ≤ (2147483647 : Int)))) && (decide ((0 : Int) ≤ k))) && (decide (k ≤ (1099511627776 : Int)))) && (decide (i.mdl = m.id))))] ?_ (fun k31 => ?_))
    ·refine sb rfl (fvs 4 [5, 3, 2, 0] [(45, .bool ((((((decide ((0 : Int) ≤ next)) && (decide (next ≤ (2147483647 : Int)))) && (decide ((0 : Int) ≤ k))) && (decide (k ≤ (1099511627776 : Int)))) && (decide (i.mdl = m.id))) && (decide ((1 : Int) ≤ i.id))))] ?_ (fun k41 => ?_))
     ·refine sb rfl (fvs 5 [5, 3, 2, 0] [(51, .bool (((((((decide ((0 : Int) ≤ next)) && (decide (next ≤ (2147483647 : Int)))) && (decide ((0 : Int) ≤ k))) && (decide (k ≤ (1099511627776 : Int)))) && (decide (i.mdl = m.id))) && (decide ((1 : Int) ≤ i.id))) && (decide (i.id ≤ next))))] ?_ (fun k46 => ?_))
      ·refine sb rfl (DU (d := 52) rfl (fun h52 => ?_) (fun h52 => ?_))
       ·refine gsg rfl (yp rfl) (gsg rfl (yp rfl) (gsg rfl (BW rfl rfl (sc rfl) (M.cell 0 rfl rfl)) (CS (B3 (some 56) (BG rfl rfl rfl) rfl rfl (AP rfl rfl call26) (Z8 m gc c F i.vars V vc _ (hC.fr0 M.fr) hok (hV.fr0 M.fr) (hY.fr0 M.fr)) ?_))))
        rintro _ w24 ⟨rfl, hfw24⟩
        refine ⟨_, rfl, ?_⟩
        have M := M.step hfw24
        exact BM rfl rfl (AR (kj3 _ _ M ⟨rfl, rfl, rfl, rfl, (by rw [HZ, if_pos h52]; rfl), trivial⟩))
       ·have h52p := ((DT h52).imp (fun z => ((DT z).imp (fun z => ((DT z).imp (fun z => ((DT z).imp (fun z => ((DT z).imp (fun z => ((DT z).imp (fun z => (odf z)) (fun z => (odf z)))) (fun z => (odf z)))) (fun z => (odf z)))) (fun z => (odf z)))) (fun z => (odf z)))) (fun z => (odf z)))
        exact DV rfl rfl rfl rfl rfl rfl (DV rfl rfl rfl rfl rfl rfl (DV rfl rfl rfl rfl rfl rfl (CS (yo rfl (BM rfl rfl (AR (kj3 _ _ M ⟨rfl, rfl, rfl, rfl, (by rw [HZ, AT h52]; rfl), trivial⟩)))))))
      refine DU (d := 46) rfl (fun h46 => ?_) (fun h46 => ?_)
      ·exact gsg rfl (yp rfl) (gsg rfl (BW rfl rfl (sc rfl) (M.cell 0 rfl rfl)) (gsg rfl (yp rfl) (gsg rfl (GP rfl rfl rfl) (sb rfl (k46 _ ⟨rfl, rfl, rfl, rfl, (by rw [h46]; rfl), trivial⟩)))))
      ·iterate 4 refine DV rfl rfl rfl rfl rfl rfl ?_
       exact sb rfl (k46 _ ⟨rfl, rfl, rfl, rfl, (by rw [h46]; rfl), trivial⟩)
     refine DU (d := 41) rfl (fun h41 => ?_) (fun h41 => ?_)
     ·exact gsg rfl (yp rfl) (gsg rfl (BW rfl rfl (sc rfl) (M.cell 0 rfl rfl)) (gsg rfl (FQ rfl rfl rfl) (sb rfl (k41 _ ⟨rfl, rfl, rfl, rfl, (by rw [h41]; rfl), trivial⟩))))
     ·exact DV rfl rfl rfl rfl rfl rfl (DV rfl rfl rfl rfl rfl rfl (DV rfl rfl rfl rfl rfl rfl (sb rfl (k41 _ ⟨rfl, rfl, rfl, rfl, (by rw [h41]; rfl), trivial⟩))))
    refine DU (d := 31) rfl (fun h31 => ?_) (fun h31 => ?_)
    ·refine gsg rfl (yp rfl) (gsg rfl (BW rfl rfl (sc rfl) (M.cell 0 rfl rfl)) ?_)
     iterate 4 refine gsg rfl (yp rfl) ?_
     exact gsg rfl (BW rfl rfl (sc rfl) (Blk.c ((hC.fr0 M.fr).blk) 0 rfl)) (gsg rfl (DM rfl rfl rfl) (sb rfl (k31 _ ⟨rfl, rfl, rfl, rfl, (by rw [h31]; rfl), trivial⟩)))
    ·iterate 8 refine DV rfl rfl rfl rfl rfl rfl ?_
     exact sb rfl (k31 _ ⟨rfl, rfl, rfl, rfl, (by rw [h31]; rfl), trivial⟩)
   refine DU (d := 27) rfl (fun h27 => ?_) (fun h27 => ?_)
   ·exact gsg rfl (yp rfl) (gsg rfl (GP rfl rfl rfl) (sb rfl (k27 _ ⟨rfl, rfl, rfl, rfl, (by rw [h27]; rfl), trivial⟩)))
   ·exact DV rfl rfl rfl rfl rfl rfl (DV rfl rfl rfl rfl rfl rfl (sb rfl (k27 _ ⟨rfl, rfl, rfl, rfl, (by rw [h27]; rfl), trivial⟩)))
  refine DU (d := 23) rfl (fun h23 => ?_) (fun h23 => ?_)
  ·exact gsg rfl (yp rfl) (gsg rfl (FQ rfl rfl rfl) (sb rfl (k23 _ ⟨rfl, rfl, rfl, rfl, (by rw [h23]; rfl), trivial⟩)))
  ·exact DV rfl rfl rfl rfl rfl rfl (DV rfl rfl rfl rfl rfl rfl (sb rfl (k23 _ ⟨rfl, rfl, rfl, rfl, (by rw [h23]; rfl), trivial⟩)))
 refine DU (d := 19) rfl (fun h19 => ?_) (fun h19 => ?_)
 ·exact gsg rfl (yp rfl) (gsg rfl (GP rfl rfl rfl) (sb rfl (k19 _ ⟨rfl, rfl, rfl, rfl, (by rw [h19]; rfl), trivial⟩)))
 ·exact DV rfl rfl rfl rfl rfl rfl (DV rfl rfl rfl rfl rfl rfl (sb rfl (k19 _ ⟨rfl, rfl, rfl, rfl, (by rw [h19]; rfl), trivial⟩)))
end Go.Proofs.YtjaocmocdhckaaaGreatDoor
