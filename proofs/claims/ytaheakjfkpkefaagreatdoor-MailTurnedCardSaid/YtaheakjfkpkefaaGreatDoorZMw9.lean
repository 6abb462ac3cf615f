/- Lemmas that the last text rests on. Condition: each says its own. -/
import Derived.Test.YtaheakjfkpkefaaGreatDoorZMw8
set_option maxHeartbeats 16000000
set_option maxRecDepth 100000
namespace Go.Proofs.YtaheakjfkpkefaaGreatDoor
open Go.RowKit
open Tryz
def onP (l : List Tk) (q : List UInt8) : Bool := l.any fun t => decide (t.on = q)
theorem sI {l l' : List Tk} {L : List (List UInt8 × Value)} {y : Tk} (h : ∀ q, (BP L q).getD (.bool false) = .bool (onP l q)) (hl : l' = l ++ [y]) : ∀ q, (BP (CM L y.on (.bool true)) q).getD (.bool false) = .bool (onP l' q) := fun q => by
 rw [hl, E4]
 unfold onP
 rw [List.any_append]
 by_cases hq : q = y.on
 ·rw [if_pos hq, hq]; simp
 ·have : ¬ y.on = q := fun e => hq e.symm
  rw [if_neg hq, h q]; unfold onP; simp [this]
def jJ (i : In) (j : Nat) : Int := ((i.toks[j - 1]?).map (·.id)).getD 0
theorem fE (l : List Tk) (g10 g79 : Nat) (L : List (List UInt8 × Value)) (f : List UInt8) (w : World) (hb : Blk w g10 92 [.map (some g79)]) (hm : Mp w g79 L) (hon : ∀ q, (BP L q).getD (.bool false) = .bool (onP l q)) :
 Calls prog 34 #[str f, pg g10] w (BM w (.bool (!(onP l f)))) := by
 refine BK func34 ntmps34 rfl fun M => srg (AG rfl (srg (yl rfl rfl (Blk.c (hb.fr0 M.fr) 0 rfl) (yb rfl (ya rfl (BF rfl rfl rfl underlying92 underlying9 LQ (Mp.fr hm M.fr (fun hh => hh)) (hon f)) (AT rfl rfl (gnr ?_)))))))
 exact gr1 rfl ⟨rfl, M.fr⟩
theorem fD (A : Option Addr) (c : Nat) (l : List (List UInt8)) (hl : l.length ≤ 4611686018427387904) (f : FuncId) (cs : List Value) (p : Nat → (List UInt8) → Bool) (S : Nat → Prop) (J : Nat → World → Prop) (w : World) (hP : PredJ prog f cs str l p S J w) (hR : ∀ w1, Fr S w w1 → Rd w1 A (l.length * 1) (AB BJ l)) (hJ : J 0 w) :
 Calls prog 33 #[.slice A l.length c, .func (.func f) #[] cs.toArray] w fun e w' => e = .returned (.bool (decide (0 ≤ ixJ p 0 l))) ∧ J (ixN p 0 l) w' ∧ Fr S w w' := by
 refine sx_enter (vs := [_, _]) func33 rfl ntmps33 rfl ?_
 have M : Mem w S [] w := Mem.nil w
 refine srg (AG rfl (AC rfl (yb rfl (cl 7 rfl (AE rfl rfl call62) (X3 A c l hl f cs p S J _ hP hR hJ) ?_))))
 rintro _ w9 ⟨rfl, hJ, hf9⟩
 refine ⟨_, rfl, ?_⟩
 have M : Mem w S [] w9 := Mem.ofFr hf9
 exact IX rfl rfl (yb rfl (gnr (gr1 rfl ⟨rfl, hJ, M.fr⟩)))
theorem fN (A : Option Addr) (c : Nat) (l : List (List UInt8)) (w : World) (hl : l.length ≤ 4611686018427387904) (f : FuncId) (cs : List Value) (p : List UInt8 → Bool) (hP : PredJ prog f cs str l (fun _ => p) AP (fun _ _ => True) w) (hR : Rd w A (l.length * 1) (AB BJ l)) :
 Calls prog 33 #[.slice A l.length c, .func (.func f) #[] cs.toArray] w (BM w (.bool (l.any p))) :=
 (fD A c l hl f cs (fun _ => p) AP (fun _ _ => True) w hP (fun _ hf => hR.fr0 hf) trivial).mono fun _ _ ⟨h1, _, h2⟩ => ⟨by rw [h1, IW], h2⟩
def J0 (m : Md) (i : In) (next k : Int) : Bool := (if (((((((decide ((0 : Int) ≤ next)) && (decide (next ≤ (2147483647 : Int)))) && (decide ((0 : Int) ≤ k))) && (decide (k ≤ (1099511627776 : Int)))) && (decide (i.mdl = m.id))) && (decide ((1 : Int) ≤ i.id))) && (decide (i.id ≤ next))) = true then (EP i.vars m.vars) else false)
def P9 (m : Md) (i : In) (next k : Int) : Bool := (if (decide ((i.st.toNat : Int) = (1 : Int))) = true then ((J0 m i next k) && (decide ((0 : Int) < ((i.toks.length : Nat) : Int)))) else (if ((decide ((i.st.toNat : Int) = (2 : Int))) || (decide ((i.st.toNat : Int) = (3 : Int)))) = true then ((J0 m i next k) && (decide (((i.toks.length : Nat) : Int) = (0 : Int)))) else false))
def ME (m : Md) (c : CrA) (i : In) (next k : Int) (b1 : Bool) (j : Nat) (y : Tk) : Bool := (if b1 = true then (if (decide ((1 : Int) ≤ y.id)) = true then (if (decide (y.id ≤ next)) = true then (if (!decide (y.id = i.id)) = true then (if (decide (((j : Nat) : Int) = (0 : Int))) = true then (if (GE m c y) = true then (MU y k) else false) else (if (decide ((jJ i j) < y.id)) = true then (if (GE m c y) = true then (MU y k) else false) else false)) else false) else false) else false) else false)
def mE (c : CrA) (i : In) (x : El) : Bool := (if (decide ((x.kind.toNat : Int) = (6 : Int))) = true then (!(List.any (c.ins x.id) (fun f => !(onP i.toks f)))) else false)
theorem tL {m : Md} {i : In} {next k : Int} (h : P9 m i next k = true) : 0 ≤ k ∧ k ≤ 1099511627776 := by
 have h0 : J0 m i next k = true := by
  cases hc : J0 m i next k with
  | true => rfl
  | false => unfold P9 at h; rw [hc] at h; simp at h
 unfold J0 at h0
 repeat' split at h0
 all_goals first
  | (simp_all; done)
  | (simp_all; omega)
def ZA (m : Md) (c : CrA) (i : In) (next k : Int) (b0 : Bool) : Nat → Bool
 | 0 => b0
 | j + 1 => match i.toks[j]? with
  | some y => ME m c i next k (ZA m c i next k b0 j) j y
  | none => ZA m c i next k b0 j
theorem tK {m : Md} {c : CrA} {i : In} {next k : Int} {b1 : Bool} {j : Nat} {y : Tk} (h : ME m c i next k b1 j y = true) : b1 = true := by
 cases b1 with
 | true => rfl
 | false => unfold ME at h; simp at h
def EW (m : Md) (c : CrA) (i : In) (next k : Int) : Bool := ZA m c i next k (P9 m i next k) i.toks.length && m.els.all (fun x => !(mE c i x))
theorem mG (m : Md) (gc : Nat) (c : CrA) (F : List Nat) (i : In) (V T : Option Addr) (vc tc : Nat) (next k : Int) (w : World) (ho : MdOk m) (hC : CourseN w m gc c F) (hil : ∀ q, (c.ins q).length ≤ 400) (htl : i.toks.length ≤ 1000000) (hok : BdOk i.vars) (hwk : ∀ t ∈ i.toks, (t.worker.length : Int) < 4611686018427387904) (hV : Rd w V (i.vars.length * 5) (AB Bd.cells i.vars)) (hT : Rd w T (i.toks.length * 9) (AB Tk.cells i.toks)) (hY : Lay0 w) :
 Calls prog 14 #[pg gc, .agg (In.cells i V T vc tc).toArray, AA next, AA k] w (BM w (AA (if EW m c i next k = true then 0 else 1))) := by
 have hne := ho.nels
 refine BK func14 ntmps14 rfl fun M => srg (D7 M rfl rfl fun g5 w1 hg5 M => AG rfl (sx_seq (AC rfl (ya rfl (IB rfl rfl rfl (pt rfl)) (nq (sx_false rfl ?_))))))
 refine sx_skip (qx_seq (sx_seq (NU ([(0, pg gc), (2, AA next), (3, AA k), (5, pg g5), (9, .bool (J0 m i next k))]) (fun w' => Mem w AP [As.blk g5 33 (In.cells i V T vc tc)] w') ?_ (fun kj3 => ?_))))
 ·intro w2 M
  refine qx_seq (sx_seq (AC rfl (AS M 0 rfl rfl rfl (nq (NU ([(0, pg gc), (2, AA next), (3, AA k), (5, pg g5), (9, .bool (P9 m i next k))]) (fun w' => Mem w AP [As.blk g5 33 (In.cells i V T vc tc)] w') ?_ (fun kj0 => ?_))))))
  ·intro w3 M
   refine qx_seq (srg (HJ M (wn_none rfl) rfl rfl rfl fun g79 w4 hg79 M => E7 M (wn_none rfl) rfl rfl 92 rfl [.map none] GA rfl fun g10 w5 hg10 M => gp1 M 0 rfl rfl rfl GC fun w6 M => nq (sx_seq (AC rfl (AS M 2 rfl rfl rfl ?_)))))
   refine DA rfl rfl (AG rfl (sx_block (flp [82, 81, 10, 5, 3, 2, 0] (fun ze e wr mz => ∃ (j : Nat) (b1 : Bool) (L1 : List (List UInt8 × Value)), e = (9, .bool b1) :: (83, AA (j : Int)) :: ze ∧ Mem w AP [As.blk g10 92 [.map (some g79)], As.mp g79 L1, As.blk g5 33 (In.cells i V T vc tc)] wr ∧ (j ≤ i.toks.length) ∧ (b1 = ZA m c i next k (P9 m i next k) j) ∧ (b1 = true → 0 ≤ k ∧ k ≤ 1099511627776) ∧ (∀ q, (BP L1 q).getD (.bool false) = .bool (onP (i.toks.take j) q)) ∧ mz = i.toks.length - j) ⟨0, (P9 m i next k), [], rfl, M, Nat.zero_le _, by first | rfl | (unfold P9; rfl), fun h => tL (by first | exact h | (unfold P9; exact h)), fun _ => rfl, rfl⟩ ?_)))
   rintro _ w7 _ ⟨j, b1, L1, rfl, M, hj, hbE, hbk, hon, rfl⟩
   refine srg (BH rfl rfl (nq (sx_seq (AF rfl (fun h84 => ?_) (fun h84 => ?_)))))
   ·have h84p := (odt h84)
    refine sx_skip (qx_seq (sx_seq (sx_block (AC rfl ?_))))
    obtain ⟨y, hy⟩ := BN (l := i.toks) (i := j) A0
    obtain ⟨b_y, o_y, hA_y⟩ := B8 (k := 9) A0 (hT.fr0 M.fr) hy
    refine ya rfl (AN j hA_y rfl rfl rfl (sl rfl) A0) (ya rfl (AI rfl rfl (BD Tk.len (hT.fr0 M.fr) hA_y hy) underlying56 rfl B3) (CV M rfl EJ fun g12 w8 hg12 M => yb rfl (C1 M 0 rfl rfl B3 rfl fun w9 M => nq (sx_seq (NU ([(0, pg gc), (2, AA next), (3, AA k), (5, pg g5), (9, .bool (ME m c i next k b1 j y)), (10, pg g10), (12, pg g12), (81, .slice T i.toks.length tc), (82, AA (i.toks.length : Int)), (83, AA (j : Int))]) (fun w' => Mem w AP [As.blk g12 56 (Tk.cells y), As.blk g10 92 [.map (some g79)], As.mp g79 L1, As.blk g5 33 (In.cells i V T vc tc)] w') ?_ (fun kr15 => ?_))))))
    ·intro  w10 M
     refine qx_seq (sx_region (AS M 1 rfl rfl rfl (yb rfl (AS M 0 rfl rfl rfl (EM M 2 (wn_none rfl) rfl rfl rfl rfl rfl underlying92 underlying9 rfl fun w11 M => sxl_nil (qx_block_normal (qx_seq (sx_region (BT rfl rfl (yb rfl (sxl_nil (fag ⟨j + 1, (ME m c i next k b1 j y), CM L1 y.on (.bool true), rfl, (M.pk [1, 2, 3]), ?_, ?_, ?_, ?_, rfl⟩))))))))))))
     ·omega
     ·rw [hbE, ZA, hy]
     ·exact fun h => hbk (tK h)
     ·exact sI hon (AK hy)
    refine HT M 47 CF fun M => oc 0 47 rfl rfl M (oc 1 47 rfl rfl M (D6 (d := 89) rfl (fun h89 => ?_) (fun h89 => ?_)))
    ·refine ob 2 47 rfl (wn_on rfl rfl rfl) rfl rfl M (fun _ M => yp rfl) (ob 3 47 rfl (wn_on rfl rfl rfl) rfl rfl M (fun _ M => B6 rfl rfl (sc rfl) (M.cell 0 rfl rfl)) (ob 4 47 rfl (wn_on rfl rfl rfl) rfl rfl M (fun _ M => FY rfl rfl rfl) (oc 5 47 rfl rfl M (oc 6 47 rfl rfl M (D6 (d := 94) rfl (fun h94 => ?_) (fun h94 => ?_))))))
     ·have h94p := (odt h94)
      refine ob 7 47 rfl (wn_on rfl rfl rfl) rfl rfl M (fun _ M => yp rfl) (ob 8 47 rfl (wn_on rfl rfl rfl) rfl rfl M (fun _ M => B6 rfl rfl (sc rfl) (M.cell 0 rfl rfl)) (ob 9 47 rfl (wn_on rfl rfl rfl) rfl rfl M (fun _ M => yp rfl) (ob 10 47 rfl (wn_on rfl rfl rfl) rfl rfl M (fun _ M => GB rfl rfl rfl) (oc 11 47 rfl rfl M (oc 12 47 rfl rfl M (D6 (d := 100) rfl (fun h100 => ?_) (fun h100 => ?_)))))))
      ·have h100p := (odt h100)
       refine ob 13 47 rfl (wn_on rfl rfl rfl) rfl rfl M (fun _ M => yp rfl) (ob 14 47 rfl (wn_on rfl rfl rfl) rfl rfl M (fun _ M => B6 rfl rfl (sc rfl) (M.cell 0 rfl rfl)) (ob 15 47 rfl (wn_on rfl rfl rfl) rfl rfl M (fun _ M => yp rfl) (ob 16 47 rfl (wn_on rfl rfl rfl) rfl rfl M (fun _ M => B6 rfl rfl (sc rfl) (M.cell 3 rfl rfl)) (ob 17 47 rfl (wn_on rfl rfl rfl) rfl rfl M (fun _ M => DM rfl rfl rfl) (oc 18 47 rfl rfl M (oc 19 47 rfl rfl M (D6 (d := 107) rfl (fun h107 => ?_) (fun h107 => ?_))))))))
       ·have h107p := (odf (BO h107))
        refine ob 20 47 rfl (wn_on rfl rfl rfl) rfl rfl M (fun _ M => yp rfl) (ob 21 47 rfl (wn_on rfl rfl rfl) rfl rfl M (fun _ M => BW rfl rfl rfl) (ob 22 47 rfl (wn_on rfl rfl rfl) rfl rfl M (fun _ M => yp rfl) (D6 (d := 110) rfl (fun h110 => ?_) (fun h110 => ?_))))
        ·refine B7 23 47 rfl M (B7 24 47 rfl M (B7 25 47 rfl M (B7 26 47 rfl M (B7 27 47 rfl M (B7 28 47 rfl M (B7 29 47 rfl M (B7 30 47 rfl M (B7 31 47 rfl M (B7 32 47 rfl M (ob 33 47 rfl (wn_on rfl rfl rfl) rfl rfl M (fun _ M => yp rfl) (oc 34 47 rfl rfl M (oc 35 47 rfl rfl M (ob 36 47 rfl (wn_on rfl rfl rfl) rfl rfl M (fun _ M => yp rfl) (ob 37 47 rfl (wn_on rfl rfl rfl) rfl rfl M (fun _ M => AI (xs := Tk.cells y) rfl rfl (M.rdBlk 0 rfl rfl) underlying56 rfl B3) (C6 38 (some 126) gkr rfl (wn_on rfl rfl rfl) rfl rfl (AE rfl rfl call31) (RD m gc c F y _ ho (hC.fr0 M.fr)) ?_)))))))))))))))
         rintro _ w12 ⟨rfl, hfw12⟩
         refine ⟨_, rfl, fun _ => M.step hfw12, ?_⟩
         have M := M.step hfw12
         refine oc 39 47 rfl rfl M (oc 40 47 rfl rfl M (D6 (d := 128) rfl (fun h128 => ?_) (fun h128 => ?_)))
         ·refine ob 41 47 rfl (wn_on rfl rfl rfl) rfl rfl M (fun _ M => yp rfl) (ob 42 47 rfl (wn_on rfl rfl rfl) rfl rfl M (fun _ M => AI (xs := Tk.cells y) rfl rfl (M.rdBlk 0 rfl rfl) underlying56 rfl B3) (ob 43 47 rfl (wn_on rfl rfl rfl) rfl rfl M (fun _ M => yp rfl) (C6 44 (some 132) gkr rfl (wn_on rfl rfl rfl) rfl rfl (AE rfl rfl call32) (VW gc y k _ (hwk y (List.mem_of_getElem? hy)) (hbk h89)) ?_)))
          rintro _ w13 ⟨rfl, hfw13⟩
          refine ⟨_, rfl, fun _ => M.step hfw13, ?_⟩
          have M := M.step hfw13
          exact oc 45 47 rfl rfl M (oc 46 47 rfl rfl M (fdn (kr15  _ _ M ⟨rfl, rfl, rfl, rfl, (by rw [ME, if_pos h89, if_pos h94, if_pos h100, if_pos h107, if_pos h110, if_pos h128]; rfl), rfl, rfl, rfl, rfl, rfl, trivial⟩)))
         ·exact B7 41 47 rfl M (B7 42 47 rfl M (B7 43 47 rfl M (B7 44 47 rfl M (oc 45 47 rfl rfl M (oc 46 47 rfl rfl M (fdn (kr15  _ _ M ⟨rfl, rfl, rfl, rfl, (by rw [ME, if_pos h89, if_pos h94, if_pos h100, if_pos h107, if_pos h110, AR h128]; rfl), rfl, rfl, rfl, rfl, rfl, trivial⟩)))))))
        ·have h110p := (odf h110)
         refine ob 23 47 rfl (wn_on rfl rfl rfl) rfl rfl M (fun _ M => yp rfl) (ob 24 47 rfl (wn_on rfl rfl rfl) rfl rfl M (fun _ M => B6 rfl rfl (sc rfl) (M.cell 3 rfl rfl)) (ob 25 47 rfl (wn_on rfl rfl rfl) rfl rfl M (fun _ M => yp rfl) (ob 26 47 rfl (wn_on rfl rfl rfl) rfl rfl M (fun _ M => DL (a := j) (b := 1) rfl rfl rfl A0 A0) ?_)))
         obtain ⟨y2, hy2⟩ := BN (l := i.toks) (i := j - 1) A0
         obtain ⟨b_y2, o_y2, hA_y2⟩ := B8 (k := 9) A0 (hT.fr0 M.fr) hy2
         refine ob 27 47 rfl (wn_on rfl rfl rfl) rfl rfl M (fun _ M => AN (j - 1) hA_y2 rfl rfl rfl (sl rfl) A0) (ob 28 47 rfl (wn_on rfl rfl rfl) rfl rfl M (fun _ M => yp rfl) ?_)
         have hpd : jJ i j = y2.id := by unfold jJ; rw [hy2]; rfl
         refine ob 29 47 rfl (wn_on rfl rfl rfl) rfl rfl M (fun _ M => B6 rfl rfl (sc rfl) (hpd ▸ CI Tk.len (hT.fr0 M.fr) hA_y2 hy2 0 rfl)) (ob 30 47 rfl (wn_on rfl rfl rfl) rfl rfl M (fun _ M => yp rfl) (ob 31 47 rfl (wn_on rfl rfl rfl) rfl rfl M (fun _ M => B6 rfl rfl (sc rfl) (M.cell 0 rfl rfl)) (ob 32 47 rfl (wn_on rfl rfl rfl) rfl rfl M (fun _ M => EU rfl rfl rfl) (ob 33 47 rfl (wn_on rfl rfl rfl) rfl rfl M (fun _ M => yp rfl) (oc 34 47 rfl rfl M (oc 35 47 rfl rfl M (D6 (d := 123) rfl (fun h123 => ?_) (fun h123 => ?_))))))))
         ·refine ob 36 47 rfl (wn_on rfl rfl rfl) rfl rfl M (fun _ M => yp rfl) (ob 37 47 rfl (wn_on rfl rfl rfl) rfl rfl M (fun _ M => AI (xs := Tk.cells y) rfl rfl (M.rdBlk 0 rfl rfl) underlying56 rfl B3) (C6 38 (some 126) gkr rfl (wn_on rfl rfl rfl) rfl rfl (AE rfl rfl call31) (RD m gc c F y _ ho (hC.fr0 M.fr)) ?_))
          rintro _ w14 ⟨rfl, hfw14⟩
          refine ⟨_, rfl, fun _ => M.step hfw14, ?_⟩
          have M := M.step hfw14
          refine oc 39 47 rfl rfl M (oc 40 47 rfl rfl M (D6 (d := 128) rfl (fun h128 => ?_) (fun h128 => ?_)))
          ·refine ob 41 47 rfl (wn_on rfl rfl rfl) rfl rfl M (fun _ M => yp rfl) (ob 42 47 rfl (wn_on rfl rfl rfl) rfl rfl M (fun _ M => AI (xs := Tk.cells y) rfl rfl (M.rdBlk 0 rfl rfl) underlying56 rfl B3) (ob 43 47 rfl (wn_on rfl rfl rfl) rfl rfl M (fun _ M => yp rfl) (C6 44 (some 132) gkr rfl (wn_on rfl rfl rfl) rfl rfl (AE rfl rfl call32) (VW gc y k _ (hwk y (List.mem_of_getElem? hy)) (hbk h89)) ?_)))
           rintro _ w15 ⟨rfl, hfw15⟩
           refine ⟨_, rfl, fun _ => M.step hfw15, ?_⟩
           have M := M.step hfw15
           exact oc 45 47 rfl rfl M (oc 46 47 rfl rfl M (fdn (kr15  _ _ M ⟨rfl, rfl, rfl, rfl, (by rw [ME, if_pos h89, if_pos h94, if_pos h100, if_pos h107, AR h110, if_pos h123, if_pos h128]; rfl), rfl, rfl, rfl, rfl, rfl, trivial⟩)))
          ·exact B7 41 47 rfl M (B7 42 47 rfl M (B7 43 47 rfl M (B7 44 47 rfl M (oc 45 47 rfl rfl M (oc 46 47 rfl rfl M (fdn (kr15  _ _ M ⟨rfl, rfl, rfl, rfl, (by rw [ME, if_pos h89, if_pos h94, if_pos h100, if_pos h107, AR h110, if_pos h123, AR h128]; rfl), rfl, rfl, rfl, rfl, rfl, trivial⟩)))))))
         ·exact B7 36 47 rfl M (B7 37 47 rfl M (B7 38 47 rfl M (oc 39 47 rfl rfl M (oc 40 47 rfl rfl M (B7 41 47 rfl M (B7 42 47 rfl M (B7 43 47 rfl M (B7 44 47 rfl M (oc 45 47 rfl rfl M (oc 46 47 rfl rfl M (fdn (kr15  _ _ M ⟨rfl, rfl, rfl, rfl, (by rw [ME, if_pos h89, if_pos h94, if_pos h100, if_pos h107, AR h110, AR h123]; rfl), rfl, rfl, rfl, rfl, rfl, trivial⟩))))))))))))
       ·refine B7 20 47 rfl M (B7 21 47 rfl M (B7 22 47 rfl M (DW 23 47 rfl rfl M (DW 24 47 rfl rfl M (DW 25 47 rfl rfl M (DW 26 47 rfl rfl M (DW 27 47 rfl rfl M (DW 28 47 rfl rfl M (DW 29 47 rfl rfl M (DW 30 47 rfl rfl M (DW 31 47 rfl rfl M (DW 32 47 rfl rfl M (B7 33 47 rfl M (oc 34 47 rfl rfl M (oc 35 47 rfl rfl M ?_)))))))))))))))
        exact B7 36 47 rfl M (B7 37 47 rfl M (B7 38 47 rfl M (oc 39 47 rfl rfl M (oc 40 47 rfl rfl M (B7 41 47 rfl M (B7 42 47 rfl M (B7 43 47 rfl M (B7 44 47 rfl M (oc 45 47 rfl rfl M (oc 46 47 rfl rfl M (fdn (kr15  _ _ M ⟨rfl, rfl, rfl, rfl, (by rw [ME, if_pos h89, if_pos h94, if_pos h100, AR h107]; rfl), rfl, rfl, rfl, rfl, rfl, trivial⟩))))))))))))
      ·refine B7 13 47 rfl M (B7 14 47 rfl M (B7 15 47 rfl M (B7 16 47 rfl M (B7 17 47 rfl M (oc 18 47 rfl rfl M (oc 19 47 rfl rfl M (B7 20 47 rfl M (B7 21 47 rfl M (B7 22 47 rfl M (DW 23 47 rfl rfl M (DW 24 47 rfl rfl M (DW 25 47 rfl rfl M (DW 26 47 rfl rfl M (DW 27 47 rfl rfl M (DW 28 47 rfl rfl M ?_)))))))))))))))
       refine DW 29 47 rfl rfl M (DW 30 47 rfl rfl M (DW 31 47 rfl rfl M (DW 32 47 rfl rfl M (B7 33 47 rfl M (oc 34 47 rfl rfl M (oc 35 47 rfl rfl M (B7 36 47 rfl M (B7 37 47 rfl M (B7 38 47 rfl M (oc 39 47 rfl rfl M (oc 40 47 rfl rfl M (B7 41 47 rfl M (B7 42 47 rfl M (B7 43 47 rfl M (B7 44 47 rfl M ?_)))))))))))))))
       exact oc 45 47 rfl rfl M (oc 46 47 rfl rfl M (fdn (kr15  _ _ M ⟨rfl, rfl, rfl, rfl, (by rw [ME, if_pos h89, if_pos h94, AR h100]; rfl), rfl, rfl, rfl, rfl, rfl, trivial⟩)))
     ·refine B7 7 47 rfl M (B7 8 47 rfl M (B7 9 47 rfl M (B7 10 47 rfl M (oc 11 47 rfl rfl M (oc 12 47 rfl rfl M (B7 13 47 rfl M (B7 14 47 rfl M (B7 15 47 rfl M (B7 16 47 rfl M (B7 17 47 rfl M (oc 18 47 rfl rfl M (oc 19 47 rfl rfl M (B7 20 47 rfl M (B7 21 47 rfl M (B7 22 47 rfl M ?_)))))))))))))))
      refine DW 23 47 rfl rfl M (DW 24 47 rfl rfl M (DW 25 47 rfl rfl M (DW 26 47 rfl rfl M (DW 27 47 rfl rfl M (DW 28 47 rfl rfl M (DW 29 47 rfl rfl M (DW 30 47 rfl rfl M (DW 31 47 rfl rfl M (DW 32 47 rfl rfl M (B7 33 47 rfl M (oc 34 47 rfl rfl M (oc 35 47 rfl rfl M (B7 36 47 rfl M (B7 37 47 rfl M (B7 38 47 rfl M ?_)))))))))))))))
      exact oc 39 47 rfl rfl M (oc 40 47 rfl rfl M (B7 41 47 rfl M (B7 42 47 rfl M (B7 43 47 rfl M (B7 44 47 rfl M (oc 45 47 rfl rfl M (oc 46 47 rfl rfl M (fdn (kr15  _ _ M ⟨rfl, rfl, rfl, rfl, (by rw [ME, if_pos h89, AR h94]; rfl), rfl, rfl, rfl, rfl, rfl, trivial⟩)))))))))
    ·refine B7 2 47 rfl M (B7 3 47 rfl M (B7 4 47 rfl M (oc 5 47 rfl rfl M (oc 6 47 rfl rfl M (B7 7 47 rfl M (B7 8 47 rfl M (B7 9 47 rfl M (B7 10 47 rfl M (oc 11 47 rfl rfl M (oc 12 47 rfl rfl M (B7 13 47 rfl M (B7 14 47 rfl M (B7 15 47 rfl M (B7 16 47 rfl M (B7 17 47 rfl M ?_)))))))))))))))
     refine oc 18 47 rfl rfl M (oc 19 47 rfl rfl M (B7 20 47 rfl M (B7 21 47 rfl M (B7 22 47 rfl M (DW 23 47 rfl rfl M (DW 24 47 rfl rfl M (DW 25 47 rfl rfl M (DW 26 47 rfl rfl M (DW 27 47 rfl rfl M (DW 28 47 rfl rfl M (DW 29 47 rfl rfl M (DW 30 47 rfl rfl M (DW 31 47 rfl rfl M (DW 32 47 rfl rfl M (B7 33 47 rfl M ?_)))))))))))))))
     exact oc 34 47 rfl rfl M (oc 35 47 rfl rfl M (B7 36 47 rfl M (B7 37 47 rfl M (B7 38 47 rfl M (oc 39 47 rfl rfl M (oc 40 47 rfl rfl M (B7 41 47 rfl M (B7 42 47 rfl M (B7 43 47 rfl M (B7 44 47 rfl M (oc 45 47 rfl rfl M (oc 46 47 rfl rfl M (fdn (kr15  _ _ M ⟨rfl, rfl, rfl, rfl, (by rw [ME, AR h89]; rfl), rfl, rfl, rfl, rfl, rfl, trivial⟩))))))))))))))
   ·have h84p := (odf h84)
    refine sx_exit (qx_then_exit (qx_then_exit ?_))
    obtain rfl : j = i.toks.length := by omega
    rw [List.take_length] at hon
    refine qx_block_hit (qx_seq (sx_seq (srg ?_)))
    iterate 4 refine yb rfl ?_
    refine yl rfl rfl (Blk.c ((hC.fr0 M.fr).blk) 3 rfl) (DA rfl rfl (AG rfl (sx_block (KB M [143, 142, 10, 0] (fun ze zF e wr mz => ∃ (q : Nat) (b2 : Bool), e = (9, .bool b2) :: (144, AA ((q : Nat) : Int)) :: ze ∧ zF wr ∧ (q ≤ m.els.length) ∧ (b2 = (b1 && (m.els.take q).all (fun x => !(mE c i x)))) ∧ mz = m.els.length - q) ⟨0, b1, rfl, M, Nat.zero_le _, (Bool.and_true _).symm, rfl⟩ ?_))))
    rintro _ w16 _ ⟨q, b2, rfl, M, hq, hb2, rfl⟩
    refine srg (BH rfl rfl (nq (sx_seq (AF rfl (fun h145 => ?_) (fun h145 => ?_)))))
    ·have h145p := (odt h145)
     refine sx_skip (qx_seq (sx_seq (sx_block (srg ?_))))
     obtain ⟨x, hx⟩ := BN (l := m.els) (i := q) A0
     obtain ⟨b_x, o_x, hA_x⟩ := B8 (k := 11) A0 ((hC.fr0 M.fr).md.md.els) hx
     refine ya rfl (AN q hA_x rfl rfl rfl (sl rfl) A0) (ya rfl (AI rfl rfl (BD El.len ((hC.fr0 M.fr).md.md.els) hA_x hx) underlying95 rfl AM) (CV M rfl AQ fun g14 w17 hg14 M => C1 M 0 rfl rfl AM rfl fun w18 M => nq (sx_seq (NU ([(0, pg gc), (9, .bool b2), (10, pg g10), (142, .slice c.a.E m.els.length c.a.ec), (143, AA (m.els.length : Int)), (144, AA ((q : Nat) : Int)), (162, .bool (mE c i x))]) (fun w' => Mem w AP [As.blk g14 95 (El.cells x), As.blk g10 92 [.map (some g79)], As.mp g79 L1, As.blk g5 33 (In.cells i V T vc tc)] w') ?_ (fun kj21 => ?_)))))
     ·intro w19 M
      refine qx_seq (AF rfl (fun h162 => ?_) (fun h162 => ?_))
      ·refine sx_region (yb rfl (sxl_nil (qx_block_normal (qx_seq (sx_region (BT rfl rfl (yb rfl (sxl_nil (fag ⟨q + 1, false, rfl, (M.pk [1, 2, 3]), ?_, ?_, rfl⟩)))))))))
       ·omega
       ·rw [AK hx, List.all_append]
        first
         | (rw [hb2]; simp [h162]; done)
         | simp [h162]
      ·refine sx_skip (qx_block_normal (qx_seq (sx_region (BT rfl rfl (yb rfl (sxl_nil (fag ⟨q + 1, b2, rfl, (M.pk [1, 2, 3]), ?_, ?_, rfl⟩)))))))
       ·omega
       ·rw [AK hx, List.all_append]
        first
         | (rw [hb2]; simp [h162]; done)
         | simp [h162]
     refine DK 12 CF gkr ?_
     have M := M.drew
     refine sb rfl (GL M 0 rfl rfl rfl (sa rfl (BW rfl rfl rfl) (sb rfl (BZ (d := 151) rfl (fun h151 => ?_) (fun h151 => ?_)))))
     ·have h151p := (odt h151)
      refine gsg rfl (yp rfl) (gsg rfl (yp rfl) (gsg rfl (yp rfl) (gsg rfl (B6 rfl rfl (sc rfl) (Blk.c ((hC.fr0 M.fr).blk) 7 rfl)) (gsg rfl (yp rfl) (gsg rfl (B6 rfl rfl (sc rfl) (M.cell 0 rfl rfl)) (gsg rfl (BF rfl rfl rfl underlying87 underlying9 EI ((hC.fr0 M.fr).I) (hC.getI _)) (gsg rfl (CB (us := []) (vs := [pg g10]) rfl rfl rfl) (CD (sxl_call (some 160) (wn_on rfl rfl rfl) rfl rfl (AE rfl rfl call33) (fN (MC (EB c.LI x.id)) (YG (EB c.LI x.id)) (c.ins x.id) _ (by have := hil x.id; omega) 34 [pg g10] (fun f => !(onP i.toks f)) (G5 call34 (fun f _ w9 hf9 => fE i.toks g10 g79 L1 f w9 ((M.blk 1 rfl).fr0 hf9) (Mp.fr (M.mp 2 rfl) hf9 (fun hh => hh)) hon)) ((hC.fr0 M.fr).rdI _)) ?_)))))))))
      rintro _ w20 ⟨rfl, hfw20⟩
      refine ⟨_, rfl, ?_⟩
      have M := M.step hfw20
      exact gyq rfl (yb rfl (sxl_nil (kj21 _ _ M ⟨rfl, rfl, rfl, rfl, rfl, rfl, (by rw [mE, if_pos h151]; rfl), trivial⟩)))
     ·iterate 8 refine CE rfl rfl rfl rfl rfl rfl ?_
      exact CD (yo rfl (yo rfl (yb rfl (sxl_nil (kj21 _ _ M ⟨rfl, rfl, rfl, rfl, rfl, rfl, (by rw [mE, AR h151]; rfl), trivial⟩)))))
    ·have h145p := (odf h145)
     refine sx_exit (qx_then_exit (qx_then_exit ?_))
     obtain rfl : q = m.els.length := by omega
     rw [List.take_length] at hb2
     refine qx_block_hit (qx_seq (sx_seq (AC rfl (AG rfl (AF rfl (fun h165 => ?_) (fun h165 => ?_))))))
     ·exact AC rfl (gnr (qx_then_ret (gr1 rfl ⟨by rw [EW, ← hbE, ← hb2, if_neg (by rw [BO h165]; decide)], M.fr⟩)))
     ·exact sx_skip (qx_seq (AC rfl (gnr (gr1 rfl ⟨by rw [EW, ← hbE, ← hb2, if_pos (BC h165)], M.fr⟩))))
  refine sx_block (srg (C2 rfl rfl (AG rfl (AF rfl (fun h60 => ?_) (fun h60 => ?_)))))
  ·refine sx_region (AT rfl rfl (fvm M 5 [9, 5, 3, 2, 0] [(68, .bool ((J0 m i next k) && (decide (0 < (i.toks.length : Int)))))] ?_ (fun k63 => ?_)))
   ·intro w21 M
    exact yb rfl (sxl_nil (qx_block_normal (kj0 _ _ M ⟨rfl, rfl, rfl, rfl, (by rw [P9, if_pos h60]; rfl), trivial⟩)))
   refine AD (d := 63) rfl (fun h63 => ?_) (fun h63 => ?_)
   ·exact gyq rfl (C3 M 0 rfl rfl rfl (yd rfl (EX rfl rfl (sl rfl)) (yd rfl (FW rfl rfl rfl) (yb rfl (k63 M ⟨rfl, rfl, rfl, rfl, rfl, (by rw [h63]; rfl), trivial⟩)))))
   ·iterate 4 refine yo rfl ?_
    exact yb rfl (k63 M ⟨rfl, rfl, rfl, rfl, rfl, (by rw [h63]; rfl), trivial⟩)
  ·refine sx_seq (srg (C2 rfl rfl (AG rfl (LT [(0, pg gc), (2, AA next), (3, AA k), (5, pg g5), (9, .bool (J0 m i next k)), (69, .bool ((decide ((i.st.toNat : Int) = 2)) || (decide ((i.st.toNat : Int) = 3))))] (fun w' => Mem w AP [As.blk g5 33 (In.cells i V T vc tc)] w') ?_ (fun k69 => ?_)))))
   ·intro w22 M
    refine qx_seq (AF rfl (fun h69 => ?_) (fun h69 => ?_))
    ·have h69p := ((E2 h69).imp (fun z => (odt z)) (fun z => (odt z)))
     refine sx_region (AT rfl rfl (fvm M 5 [9, 5, 3, 2, 0] [(78, .bool ((J0 m i next k) && (decide ((i.toks.length : Int) = 0))))] ?_ (fun k73 => ?_)))
     ·intro w23 M
      exact yb rfl (sxl_nil (qx_block_normal (kj0 _ _ M ⟨rfl, rfl, rfl, rfl, (by rw [P9, AR h60, if_pos h69]; rfl), trivial⟩)))
     refine AD (d := 73) rfl (fun h73 => ?_) (fun h73 => ?_)
     ·exact gyq rfl (C3 M 0 rfl rfl rfl (yd rfl (EX rfl rfl (sl rfl)) (yd rfl (BW rfl rfl rfl) (yb rfl (k73 M ⟨rfl, rfl, rfl, rfl, rfl, (by rw [h73]; rfl), trivial⟩)))))
     ·iterate 4 refine yo rfl ?_
      exact yb rfl (k73 M ⟨rfl, rfl, rfl, rfl, rfl, (by rw [h73]; rfl), trivial⟩)
    ·exact sx_region (yb rfl (sxl_nil (qx_block_normal (kj0 _ _ M ⟨rfl, rfl, rfl, rfl, (by rw [P9, AR h60, AR h69]; rfl), trivial⟩))))
   refine AF rfl (fun h69 => ?_) (fun h69 => ?_)
   ·exact sx_skip (k69 _ _ M ⟨rfl, rfl, rfl, rfl, rfl, (by rw [h69]; rfl), trivial⟩)
   ·exact sx_region (C2 rfl rfl (yb rfl (sxl_nil (k69 _ _ M ⟨rfl, rfl, rfl, rfl, rfl, (by rw [h69]; rfl), trivial⟩))))
 refine DK 39 CF gkr ?_
 have M := M.drew
 refine sb rfl (sa rfl (FY rfl rfl rfl) (sb rfl (fvs 3 [5, 3, 2, 0] [(22, .bool ((decide ((0 : Int) ≤ next)) && (decide (next ≤ (2147483647 : Int)))))] ?_ (fun k19 => ?_))))
 ·refine sb rfl (fvs 3 [5, 3, 2, 0] [(26, .bool (((decide ((0 : Int) ≤ next)) && (decide (next ≤ (2147483647 : Int)))) && (decide ((0 : Int) ≤ k))))] ?_ (fun k23 => ?_))
  ·refine sb rfl (fvs 3 [5, 3, 2, 0] [(30, .bool ((((decide ((0 : Int) ≤ next)) && (decide (next ≤ (2147483647 : Int)))) && (decide ((0 : Int) ≤ k))) && (decide (k ≤ (1099511627776 : Int)))))] ?_ (fun k27 => ?_))
   ·refine sb rfl (fvs 9 [5, 3, 2, 0] [(40, .bool (((((decide ((0 : Int) ≤ next)) && (decide (next ≤ (2147483647 : Int)))) && (decide ((0 : Int) ≤ k))) && (decide (k ≤ (1099511627776 : Int)))) && (decide (i.mdl = m.id))))] ?_ (fun k31 => ?_))
    ·refine sb rfl (fvs 4 [5, 3, 2, 0] [(45, .bool ((((((decide ((0 : Int) ≤ next)) && (decide (next ≤ (2147483647 : Int)))) && (decide ((0 : Int) ≤ k))) && (decide (k ≤ (1099511627776 : Int)))) && (decide (i.mdl = m.id))) && (decide ((1 : Int) ≤ i.id))))] ?_ (fun k41 => ?_))
     ·refine sb rfl (fvs 5 [5, 3, 2, 0] [(51, .bool (((((((decide ((0 : Int) ≤ next)) && (decide (next ≤ (2147483647 : Int)))) && (decide ((0 : Int) ≤ k))) && (decide (k ≤ (1099511627776 : Int)))) && (decide (i.mdl = m.id))) && (decide ((1 : Int) ≤ i.id))) && (decide (i.id ≤ next))))] ?_ (fun k46 => ?_))
      ·refine sb rfl (BZ (d := 52) rfl (fun h52 => ?_) (fun h52 => ?_))
       ·refine gsg rfl (yp rfl) (gsg rfl (yp rfl) (gsg rfl (B6 rfl rfl (sc rfl) (M.cell 0 rfl rfl)) (CD (sxl_call (some 56) (wn_on rfl rfl rfl) rfl rfl (AE rfl rfl call30) (ZT m gc c F i.vars V vc _ (hC.fr0 M.fr) hok (hV.fr0 M.fr) (hY.fr0 M.fr)) ?_))))
        rintro _ w24 ⟨rfl, hfw24⟩
        refine ⟨_, rfl, ?_⟩
        have M := M.step hfw24
        exact AT rfl rfl (sxl_nil (kj3 _ _ M ⟨rfl, rfl, rfl, rfl, (by rw [J0, if_pos h52]; rfl), trivial⟩))
       ·have h52p := ((D8 h52).imp (fun z => ((D8 z).imp (fun z => ((D8 z).imp (fun z => ((D8 z).imp (fun z => ((D8 z).imp (fun z => ((D8 z).imp (fun z => (odf z)) (fun z => (odf z)))) (fun z => (odf z)))) (fun z => (odf z)))) (fun z => (odf z)))) (fun z => (odf z)))) (fun z => (odf z)))
        exact CE rfl rfl rfl rfl rfl rfl (CE rfl rfl rfl rfl rfl rfl (CE rfl rfl rfl rfl rfl rfl (CD (yo rfl (AT rfl rfl (sxl_nil (kj3 _ _ M ⟨rfl, rfl, rfl, rfl, (by rw [J0, AR h52]; rfl), trivial⟩)))))))
      refine BZ (d := 46) rfl (fun h46 => ?_) (fun h46 => ?_)
      ·exact gsg rfl (yp rfl) (gsg rfl (B6 rfl rfl (sc rfl) (M.cell 0 rfl rfl)) (gsg rfl (yp rfl) (gsg rfl (GB rfl rfl rfl) (sb rfl (k46 _ ⟨rfl, rfl, rfl, rfl, (by rw [h46]; rfl), trivial⟩)))))
      ·iterate 4 refine CE rfl rfl rfl rfl rfl rfl ?_
       exact sb rfl (k46 _ ⟨rfl, rfl, rfl, rfl, (by rw [h46]; rfl), trivial⟩)
     refine BZ (d := 41) rfl (fun h41 => ?_) (fun h41 => ?_)
     ·exact gsg rfl (yp rfl) (gsg rfl (B6 rfl rfl (sc rfl) (M.cell 0 rfl rfl)) (gsg rfl (FY rfl rfl rfl) (sb rfl (k41 _ ⟨rfl, rfl, rfl, rfl, (by rw [h41]; rfl), trivial⟩))))
     ·exact CE rfl rfl rfl rfl rfl rfl (CE rfl rfl rfl rfl rfl rfl (CE rfl rfl rfl rfl rfl rfl (sb rfl (k41 _ ⟨rfl, rfl, rfl, rfl, (by rw [h41]; rfl), trivial⟩))))
    refine BZ (d := 31) rfl (fun h31 => ?_) (fun h31 => ?_)
    ·refine gsg rfl (yp rfl) (gsg rfl (B6 rfl rfl (sc rfl) (M.cell 0 rfl rfl)) ?_)
     iterate 4 refine gsg rfl (yp rfl) ?_
     exact gsg rfl (B6 rfl rfl (sc rfl) (Blk.c ((hC.fr0 M.fr).blk) 0 rfl)) (gsg rfl (CP rfl rfl rfl) (sb rfl (k31 _ ⟨rfl, rfl, rfl, rfl, (by rw [h31]; rfl), trivial⟩)))
    ·iterate 8 refine CE rfl rfl rfl rfl rfl rfl ?_
     exact sb rfl (k31 _ ⟨rfl, rfl, rfl, rfl, (by rw [h31]; rfl), trivial⟩)
   refine BZ (d := 27) rfl (fun h27 => ?_) (fun h27 => ?_)
   ·exact gsg rfl (yp rfl) (gsg rfl (GB rfl rfl rfl) (sb rfl (k27 _ ⟨rfl, rfl, rfl, rfl, (by rw [h27]; rfl), trivial⟩)))
   ·exact CE rfl rfl rfl rfl rfl rfl (CE rfl rfl rfl rfl rfl rfl (sb rfl (k27 _ ⟨rfl, rfl, rfl, rfl, (by rw [h27]; rfl), trivial⟩)))
  refine BZ (d := 23) rfl (fun h23 => ?_) (fun h23 => ?_)
  ·exact gsg rfl (yp rfl) (gsg rfl (FY rfl rfl rfl) (sb rfl (k23 _ ⟨rfl, rfl, rfl, rfl, (by rw [h23]; rfl), trivial⟩)))
  ·exact CE rfl rfl rfl rfl rfl rfl (CE rfl rfl rfl rfl rfl rfl (sb rfl (k23 _ ⟨rfl, rfl, rfl, rfl, (by rw [h23]; rfl), trivial⟩)))
 refine BZ (d := 19) rfl (fun h19 => ?_) (fun h19 => ?_)
 ·exact gsg rfl (yp rfl) (gsg rfl (GB rfl rfl rfl) (sb rfl (k19 _ ⟨rfl, rfl, rfl, rfl, (by rw [h19]; rfl), trivial⟩)))
 ·exact CE rfl rfl rfl rfl rfl rfl (CE rfl rfl rfl rfl rfl rfl (sb rfl (k19 _ ⟨rfl, rfl, rfl, rfl, (by rw [h19]; rfl), trivial⟩)))
end Go.Proofs.YtaheakjfkpkefaaGreatDoor
