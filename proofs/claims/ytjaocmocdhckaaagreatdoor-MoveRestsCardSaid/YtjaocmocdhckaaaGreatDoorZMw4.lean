/- Lemmas that the last text rests on. Condition: each says its own. -/
import Derived.Test.YtjaocmocdhckaaaGreatDoorZMw3
import Derived.Test.YtjaocmocdhckaaaGreatDoorZEv3
import Derived.Test.YtjaocmocdhckaaaGreatDoorZRev
set_option maxHeartbeats 16000000
set_option maxRecDepth 100000
namespace Go.Proofs.YtjaocmocdhckaaaGreatDoor
open Go.RowKit
open Tryz
def PT (c : CrA) (q : List UInt8) : Xn := match c.cnd q with
 | some s => (D6 s).1
 | none => .zero
def YR (c : CrA) (q : List UInt8) : Option Addr := match c.cnd q with
 | some _ => c.aC q
 | none => none
theorem o7 (c : CrA) (q : List UInt8) : (PT c q).sm 1048576 := by
 unfold PT
 split
 ·exact RK _
 ·trivial
section
variable {w : World} {m : Md} {gc : Nat} {c : CrA} {F : List Nat} (h : CourseN w m gc c F) (q : List UInt8)
include h
theorem qZ : ∃ F', (PT c q).AtL 75 w (YR c q) F' := by
 unfold PT YR
 cases hc : c.cnd q with
 | none => exact ⟨[], Xn.AtL.leaf rfl⟩
 | some s => obtain ⟨F', h1, _⟩ := h.ndC q s hc; exact ⟨F', h1⟩
theorem o6 : (CU c.LC q).getD (.agg (Xn.cells .zero none).toArray) = .agg (Xn.cells (PT c q) (YR c q)).toArray := by
 rw [h.getC q]; unfold PT YR
 cases c.cnd q <;> rfl
theorem qY : (CU c.LC q).isSome = (c.cnd q).isSome := by
 rw [h.getC q]; cases c.cnd q <;> rfl
end
def Ar.stopd (a : Ar) : Ar := ⟨a.flow, a.order, a.rests, a.at_, true⟩
theorem YK {l : List Ar} {i : Nat} {x : Ar} (hx : l[i]? = some x) : (AH Ar.cells l).set (i * 5 + 4) (.bool true) = AH Ar.cells (l.set i x.stopd) := by
 induction l generalizing i with
 | nil => simp at hx
 | cons a r ih =>
  cases i with
  | zero =>
   simp only [List.getElem?_cons_zero, Option.some.injEq] at hx; subst hx
   rfl
  | succ i =>
   have h1 : (AH Ar.cells (a :: r)) = a.cells ++ AH Ar.cells r := by simp [AH]
   have h2 : (AH Ar.cells ((a :: r).set (i + 1) x.stopd)) = a.cells ++ AH Ar.cells (r.set i x.stopd) := by simp [AH]
   rw [h1, h2, List.set_append_right _ _ (by rw [Ar.len]; omega), Ar.len, show (i + 1) * 5 + 4 - 5 = i * 5 + 4 by omega, ih (by simpa using hx)]
def chF (c : CrA) (vs : List Bd) : List (List UInt8) → List UInt8 → Option (List UInt8)
 | [], d => some d
 | q :: r, d => if (!(c.cnd q).isSome) = true then chF c vs r d else if (!decide ((evB (PT c q) vs).2 = (0 : Int))) = true then none else if (evB (PT c q) vs).1 = true then some q else chF c vs r d
def chP (c : CrA) (vs : List Bd) (x : El) : Option (List UInt8) := if (decide ((1 : Int) < (((c.outs x.id).length : Nat) : Int))) = true then chF c vs (c.outs x.id) x.dflt else some (((c.outs x.id)[0]?).getD [])
def Mo.choose (σ : Mo) (c : CrA) (vs : List Bd) (i : Nat) (a : Ar) (x : El) : Mo := match chP c vs x with
 | some q => ⟨σ.on.eraseIdx i ++ [(⟨q, ((σ.came + 1 : Nat) : Int), 0, [], false⟩ : Ar)], σ.done, σ.fired ++ [((((x.id ++ [32]) ++ a.flow) ++ [32]) ++ q)], σ.came + 1⟩
 | none => ⟨σ.on.set i a.stopd, σ.done, σ.fired, σ.came⟩
def jIx (on : List Ar) (f : List UInt8) : Int := ixJ (fun (_ : Nat) (b : Ar) => decide (b.flow = f)) 0 on
def erI (l : List Ar) (k : Int) : List Ar := l.eraseIdx k.toNat
def Mo.join (σ : Mo) (c : CrA) (x : El) : Mo := Mo.puts ⟨((HQ ((c.ins x.id).map (jIx σ.on))).reverse).foldl erI σ.on, σ.done, σ.fired ++ [x.id], σ.came⟩ (c.outs x.id)
def okE : List Int → Nat → Prop
 | [], _ => True
 | k :: r, n => 0 ≤ k ∧ k < (n : Int) ∧ okE r (n - 1)
theorem VA {w : World} {g off : Nat} {u v : Value} (h1 : Cell w.heap g off u) (h2 : Cell w.heap g off v) : v = u := Option.some.inj ((h2.get w rfl).symm.trans (h1.get w rfl))
theorem gJ {w : World} {A : Option Addr} {n k : Nat} {xs : List Value} (h : Rd w A n xs) (hn : n = k) : Rd w A k xs := hn ▸ h
theorem qB {l : List Ar} {ks : List Int} {j : Nat} {z : Int} (h : okE (ks.drop j) l.length) (hz : ks[j]? = some z) : ∃ kn : Nat, z = (kn : Int) ∧ kn < l.length := by
 rw [B7 hz] at h
 exact ⟨z.toNat, by have := h.1; omega, by have := h.1; have := h.2.1; omega⟩
theorem hX {l : List Ar} {ks : List Int} {j kn : Nat} (h : okE (ks.drop j) l.length) (hz : ks[j]? = some (kn : Int)) : okE (ks.drop (j + 1)) (l.eraseIdx kn).length := by
 rw [B7 hz] at h
 rw [List.length_eraseIdx_of_lt (by have := h.2.1; omega)]
 exact h.2.2
theorem WH : ∀ {l : List Int} {n : Nat}, l.Pairwise (fun a b => b < a) → (∀ x ∈ l, 0 ≤ x ∧ x < (n : Int)) → okE l n
 | [], _, _, _ => trivial
 | k :: r, n, hp, hb => by
  rw [List.pairwise_cons] at hp
  have hk := hb k List.mem_cons_self
  exact ⟨hk.1, hk.2, WH hp.2 fun x hx => ⟨(hb x (List.mem_cons_of_mem _ hx)).1, by have := hp.1 x hx; omega⟩⟩
theorem qL {on : List Ar} {f : List UInt8} : ∀ (i : Nat), 0 ≤ ixJ (fun (_ : Nat) (b : Ar) => decide (b.flow = f)) i on → ∃ j a, ixJ (fun (_ : Nat) (b : Ar) => decide (b.flow = f)) i on = ((i + j : Nat) : Int) ∧ on[j]? = some a ∧ a.flow = f := by
 induction on with
 | nil => intro i h; simp [ixJ] at h
 | cons b r ih =>
  intro i h
  unfold ixJ at h ⊢
  by_cases hb : b.flow = f
  ·exact ⟨0, b, by rw [if_pos (by simpa using hb)]; rfl, rfl, hb⟩
  ·rw [if_neg (by simpa using hb)] at h ⊢
   obtain ⟨j, a, h1, h2, h3⟩ := ih (i + 1) h
   exact ⟨j + 1, a, by rw [h1]; congr 1; omega, by simpa using h2, h3⟩
theorem YH {on : List Ar} {f : List UInt8} (h : 0 ≤ jIx on f) : ∃ j a, jIx on f = ((j : Nat) : Int) ∧ on[j]? = some a ∧ a.flow = f := by
 obtain ⟨j, a, h1, h2, h3⟩ := qL 0 h
 exact ⟨j, a, by unfold jIx; rw [h1, Nat.zero_add], h2, h3⟩
theorem mU {on : List Ar} {l : List (List UInt8)} {acc : List Int} (hn : l.Nodup) (ha : acc = l.map (jIx on)) (hb : l.all (fun f => decide (0 ≤ jIx on f)) = true) : okE (HQ acc).reverse on.length := by
 have hb' : ∀ f ∈ l, 0 ≤ jIx on f := fun f hf => by simpa using List.all_eq_true.1 hb f hf
 have hm : ∀ x, x ∈ (HQ acc).reverse ↔ x ∈ acc := fun x => by
  rw [List.mem_reverse]; unfold HQ; exact (List.mergeSort_perm _ _).mem_iff
 have hnd : acc.Nodup := by
  rw [ha, List.nodup_iff_pairwise_ne, List.pairwise_map]
  rw [List.nodup_iff_pairwise_ne] at hn
  refine hn.imp_of_mem fun {f g} hf hg hne he => ?_
  obtain ⟨j, a, h1, h2, h3⟩ := YH (hb' f hf)
  obtain ⟨j', a', h1', h2', h3'⟩ := YH (hb' g hg)
  have : j = j' := by omega
  subst this
  rw [h2] at h2'
  injection h2' with h2'
  exact hne (h3.symm.trans ((congrArg Ar.flow h2').trans h3'))
 refine WH ?_ fun x hx => ?_
 ·rw [List.pairwise_reverse]
  have hs : (HQ acc).Pairwise (fun a b => decide (a ≤ b) = true) := List.pairwise_mergeSort (fun a b c => by simp only [decide_eq_true_eq]; omega) (fun a b => by simp only [Bool.or_eq_true, decide_eq_true_eq]; omega) acc
  have hnd2 : (HQ acc).Nodup := (List.mergeSort_perm _ _).nodup_iff.2 hnd
  rw [List.nodup_iff_pairwise_ne] at hnd2
  refine (hs.and hnd2).imp fun {a b} h => ?_
  have h1 := odt h.1
  have h2 := h.2
  omega
 ·rw [hm, ha] at hx
  obtain ⟨f, hf, rfl⟩ := List.mem_map.1 hx
  obtain ⟨j, a, h1, h2, _⟩ := YH (hb' f hf)
  have := (List.getElem?_eq_some_iff.1 h2).1
  omega
theorem iS {gc vn vc gx : Nat} {V : Option Addr} {c : CrA} {x : El} {on on1 on2 dn : List Ar} {fi fi1 : List (List UInt8)} {cm cm1 : Nat} {F F' : List Nat} {w w' : World} {Ls : List As} {acc ks : List Int} (hks : ks = (HQ acc).reverse) (hac : acc = (c.ins x.id).map (jIx on)) (h1 : fi1 = fi ++ [x.id]) (hE1 : on1 = ks.foldl erI on) (hE3 : (⟨on2, dn, fi1, cm1⟩ : Mo) = Mo.puts ⟨on1, dn, fi1, cm⟩ (c.outs x.id))
 (M : Mem w (fun k => k ∈ F) (As.mo gc V vn vc gx ⟨on2, dn, fi1, cm1⟩ F' :: Ls) w') : PZ gc V vn vc gx (if true = true then Mo.join ⟨on, dn, fi, cm⟩ c x else ⟨on, dn, fi, cm⟩) F w w' := by
 rw [if_pos rfl, Mo.join]
 rw [hE3, hE1, hks, hac, h1] at M
 exact HF M
theorem j1 : (prog.info? 3).map (fun i => (i.zero, i.size, i.bytes)) = some (some (AJ 0), 1, 8) := by kernel_rfl
theorem aV : (prog.info? 9).map (·.zero) = some (some (str [])) := by kernel_rfl
theorem dI (we : World) (m : Md) (gc : Nat) (c : CrA) (Fc : List Nat) (V : Option Addr) (vc gx : Nat) (vs : List Bd) (σ : Mo) (F : List Nat) (i : Nat) (a : Ar) (x : El) (w : World) (ho : MdOk m) (h1 : σ.on.length ≤ 500000) (h2 : σ.fired.length ≤ 500000) (h3 : σ.came ≤ 500000000) (hne : 0 < (c.outs x.id).length) (hql : ∀ q ∈ (c.outs x.id), q.length ≤ 100000) (hdl : x.dflt.length ≤ 100000) (hal : a.flow.length ≤ 100000) (hvl : vs.length ≤ 4611686018427387904) (hok : BdOk vs) (hV : Rd we V (vs.length * 5) (AH Bd.cells vs)) (hY : Lay0 we) (ha : σ.on[i]? = some a) (_hx : x.id.length ≤ 100000) (hC : CourseN we m gc c Fc) (hwe : Fr0 we w) (hFe : ∀ g ∈ F, we.heap.size ≤ g) (hN : MoN w gc V vs.length vc gx σ F) :
 Calls prog 149 #[pg gx, AJ ((i : Nat) : Int), .agg x.cells.toArray] w fun e w' => e = .returned (.bool (chP c vs x).isSome) ∧ PZ gc V vs.length vc gx (σ.choose c vs i a x) F w w' ∧ ((chP c vs x).isSome = false → ∀ u, Cell w.heap gx 2 u → Cell w'.heap gx 2 u) := by
 obtain ⟨on, dn, fi, cm⟩ := σ
 dsimp only at h1 h2 h3 ha
 have hil : i < on.length := (List.getElem?_eq_some_iff.1 ha).1
 have hnf := ho.nfls
 have hol := hC.lenO x.id
 have hAn := fun q => qZ hC q
 refine BE (vs := [_, _, _]) func149 rfl ntmps149 rfl ?_
 have M : Mem w (fun k => k ∈ F) [As.mo gc V vs.length vc gx (⟨on, dn, fi, cm⟩ : Mo) F] w := Mem.oneMo hN
 obtain ⟨x1, M⟩ := Mem.openMo M
 replace M : Mem w (fun k => k ∈ F) [As.blk gx 124 [pg gc, .slice V vs.length vc, .slice x1.A on.length x1.a, .slice x1.B dn.length x1.b, .slice x1.C fi.length x1.c, AJ ((cm : Nat) : Int)], As.own 0 126 5 (.slice x1.A on.length x1.a) on.length (AH Ar.cells on), As.own 0 126 5 (.slice x1.B dn.length x1.b) dn.length (AH Ar.cells dn), As.own 0 9 1 (.slice x1.C fi.length x1.c) fi.length (AH BY fi)] w := M
 have hc0 := M.cell 0 (off := 2) rfl rfl
 refine srg (CR M rfl rfl fun g5 w1 hg5 M => AY rfl (AF (ER CZ gkr ?_)))
 have M := M.drew
 refine sb rfl (sb rfl (sb rfl (FL M 1 rfl rfl rfl (sb rfl (sb rfl (sa rfl (BW rfl rfl (sc rfl) (Blk.c ((hC.fr0 (CA hwe M.fr hFe)).blk) 8 rfl)) (sb rfl (FL M 0 rfl rfl rfl (sa rfl (BT rfl rfl rfl underlying64 underlying9 DH ((hC.fr0 (CA hwe M.fr hFe)).O) (hC.getO _)) (sb rfl (FA (AD (AQ rfl ?_)))))))))))))
 obtain ⟨z0, hz0⟩ := CC (l := (c.outs x.id)) (i := 0) AM
 obtain ⟨b_z0, o_z0, hA_z0⟩ := BI (k := 1) AM ((hC.fr0 (CA hwe M.fr hFe)).rdO _) hz0
 have hl_z0 := hql z0 (List.mem_of_getElem? hz0)
 refine ya rfl (B1 0 hA_z0 rfl rfl rfl (sl rfl) AM) (ya rfl (BW rfl rfl (sc rfl) (DQ E0 ((hC.fr0 (CA hwe M.fr hFe)).rdO _) hA_z0 hz0 0 rfl)) (AY rfl (AF (AQ rfl (ya rfl (C3 rfl rfl (sl rfl)) (LD rfl rfl (nq (AL rfl (fun h30 => ?_) (fun h30 => ?_)))))))))
 ·have h30p := (odt h30)
  refine AQ rfl (BC M 0 rfl rfl rfl (AY rfl (AQ rfl (ya rfl (C3 rfl rfl (sl rfl)) (AY rfl (AS (flp [34, 33, 8, 5, 1, 0] (fun ze e wr mz => ∃ (j : Nat), e = (35, AJ ((j : Nat) : Int)) :: ze ∧ Mem w (fun k => k ∈ F) [As.blk g5 69 (El.cells x), As.blk gx 124 [pg gc, .slice V vs.length vc, .slice x1.A on.length x1.a, .slice x1.B dn.length x1.b, .slice x1.C fi.length x1.c, AJ ((cm : Nat) : Int)], As.own 0 126 5 (.slice x1.A on.length x1.a) on.length (AH Ar.cells on), As.own 0 126 5 (.slice x1.B dn.length x1.b) dn.length (AH Ar.cells dn), As.own 0 9 1 (.slice x1.C fi.length x1.c) fi.length (AH BY fi)] wr ∧ (j ≤ (c.outs x.id).length) ∧ (chF c vs (c.outs x.id) x.dflt = chF c vs ((c.outs x.id).drop j) x.dflt) ∧ mz = (c.outs x.id).length - j) ⟨0, rfl, M, Nat.zero_le _, rfl, rfl⟩ ?_)))))))
  rintro _ w2 _ ⟨j, rfl, M, hj, hE, rfl⟩
  refine srg (CF rfl rfl (nq (AF (AL rfl (fun h36 => ?_) (fun h36 => ?_)))))
  ·have h36p := (odt h36)
   refine AI (AD (AF (AS (srg ?_))))
   obtain ⟨q, hq⟩ := CC (l := (c.outs x.id)) (i := j) AM
   obtain ⟨b_q, o_q, hA_q⟩ := BI (k := 1) AM ((hC.fr0 (CA hwe M.fr hFe)).rdO _) hq
   have hl_q := hql q (List.mem_of_getElem? hq)
   refine ya rfl (B1 j hA_q rfl rfl rfl (sl rfl) AM) (ya rfl (BW rfl rfl (sc rfl) (DQ E0 ((hC.fr0 (CA hwe M.fr hFe)).rdO _) hA_q hq 0 rfl)) (AY rfl (AQ rfl (BM rfl rfl (BC M 1 rfl rfl rfl (BM rfl rfl (ya rfl (BW rfl rfl (sc rfl) (Blk.c ((hC.fr0 (CA hwe M.fr hFe)).blk) 9 rfl)) (yb rfl (ya rfl (E6 rfl rfl rfl underlying65 underlying9 DD ((hC.fr0 (CA hwe M.fr hFe)).C) (o6 hC _) (qY hC _)) ?_)))))))))
   refine BM rfl rfl (yb rfl (DC M rfl DD fun g11 w3 hg11 M => C4 M 0 rfl rfl AZ rfl fun w4 M => AY rfl (AF (AQ rfl (yb rfl (AR ?_))))))
   refine AD (AL rfl (fun h52 => ?_) (fun h52 => ?_))
   ·have h52p := (CK h52)
    refine BF (AG (AV (AD (AK (ya rfl (BO rfl rfl rfl AM) (yb rfl (AR (fag ⟨j + 1, rfl, (M.pk [1, 2, 3, 4, 5]), ?_, ?_, rfl⟩))))))))
    ·omega
    ·first
      | rw [hE, B7 hq, chF, if_pos h52]
      | rw [hE, B7 hq, chF, AT h52, AT h63, AT h71]
   ·have h52p := (BQ h52)
    refine AI (AD (AF (CV 11 (fun w' => Mem w (fun k => k ∈ F) [As.blk g11 75 (Xn.cells (PT c q) (YR c q)), As.blk g5 69 (El.cells x), As.blk gx 124 [pg gc, .slice V vs.length vc, .slice x1.A on.length x1.a, .slice x1.B dn.length x1.b, .slice x1.C fi.length x1.c, AJ ((cm : Nat) : Int)], As.own 0 126 5 (.slice x1.A on.length x1.a) on.length (AH Ar.cells on), As.own 0 126 5 (.slice x1.B dn.length x1.b) dn.length (AH Ar.cells dn), As.own 0 9 1 (.slice x1.C fi.length x1.c) fi.length (AH BY fi)] w') CZ ?_)))
    have M := M.drew
    refine oa 0 11 rfl rfl M (fun _ M => AU (xs := Xn.cells (PT c q) (YR c q)) rfl rfl (M.rdBlk 0 rfl rfl) underlying75 rfl AZ) (oc 1 11 rfl rfl M (oc 2 11 rfl rfl M (oc 3 11 rfl rfl M (ol 4 11 rfl rfl rfl M (fun _ M => (M.cell 2 rfl rfl)) (C7 5 (some 59) gkr rfl (AA rfl) rfl rfl (AP rfl rfl call166) (d6 (PT c q) (YR c q) _ V vc vs _ hvl hok (hV.fr0 (CA hwe M.fr hFe)) ((hAn q).choose_spec.fr0 (CA hwe M.fr hFe)) (o7 c q) (hY.fr0 (CA hwe M.fr hFe))) ?_)))))
    rintro _ w5 ⟨rfl, hfw5⟩
    refine ⟨_, rfl, fun _ => M.step hfw5, ?_⟩
    have M := M.step hfw5
    refine oc 6 11 rfl rfl M (oc 7 11 rfl rfl M (oc 8 11 rfl rfl M (oc 9 11 rfl rfl M (oc 10 11 rfl rfl M (fdn (AD (AF (AQ rfl (DA rfl rfl (nq (AL rfl (fun h63 => ?_) (fun h63 => ?_))))))))))))
    ·have h63p := (odf (CK h63))
     refine AQ rfl (BM rfl rfl (BC M 2 rfl rfl rfl (yb rfl ?_)))
     obtain ⟨g69, hA69⟩ := gX (M.own 3 rfl) AM
     refine ya rfl (B1 i hA69 rfl rfl rfl (sl rfl) AM) (yb rfl (fG (xs' := AH Ar.cells (on.set i a.stopd)) M 3 (AA rfl) rfl hA69 rfl rfl rfl rfl rfl rfl ZC AM (by rw [Nat.zero_add]; exact YK ha) fun w6 M => nq (AQ rfl (gnr (AB (AN (AB (AB ?_))))))))
     refine AN (AB (gr1 rfl ?_))
     have hE2 : chP c vs x = none := by rw [chP, if_pos h30, hE, B7 hq, chF, AT h52, if_pos h63]
     have hc1 := M.cell 2 (off := 2) rfl rfl
     obtain ⟨F6, M⟩ := Mem.closeMo (M.pk [2, 3, 4, 5, 0, 1]) (e1 := by simp)
     exact ⟨by rw [hE2]; rfl, by rw [Mo.choose, hE2]; exact HF (M.pk [0]), fun _ u hu => VA hu hc0 ▸ hc1⟩
    ·have h63p := (odt (BQ h63))
     refine AI (AD (srg (AY rfl (AL rfl (fun h71 => ?_) (fun h71 => ?_)))))
     ·refine AQ rfl (AY rfl (BF (G6 rfl (AG (AG (AV (AD (AF (DP 16 CZ gkr ?_)))))))))
      have M := M.drew
      refine sb rfl (sb rfl (FL M 1 rfl rfl rfl (sa rfl (GB rfl rfl rfl CX) (sb rfl (sb rfl (sb rfl (FL M 2 rfl rfl rfl (sb rfl ?_))))))))
      obtain ⟨b7_a, o7_a, hA7_a⟩ := BI (k := 5) AM (M.rdOwn 3 rfl) ha
      refine sa rfl (B1 i hA7_a rfl rfl rfl (sl rfl) AM) (sb rfl (sd rfl rfl (DQ Ar.len (M.rdOwn 3 rfl) hA7_a ha 0 rfl) (sa rfl (GB rfl rfl rfl CX) (sa rfl (GB rfl rfl rfl CX) (sb rfl (sa rfl (GB rfl rfl rfl CX) (CS ?_)))))))
      obtain ⟨F8, M⟩ := Mem.closeMo (M.pk [2, 3, 4, 5, 0, 1])
      refine cl 90 rfl (AP rfl rfl call164) (KZ gc V vs.length vc gx (⟨on, dn, fi, cm⟩ : Mo) F8 ((((x.id ++ [32]) ++ a.flow) ++ [32]) ++ q) _ (by first | omega | (simp; omega) | (simp [List.length_eraseIdx]; split <;> omega)) (M.ok 0 _ rfl)) ?_
      rintro _ w7 ⟨rfl, F9, hNw7, hqw7, hfw7⟩
      refine ⟨_, rfl, ?_⟩
      have M := M.updMo 0 rfl (σ' := (⟨on, dn, fi ++ [((((x.id ++ [32]) ++ a.flow) ++ [32]) ++ q)], cm⟩ : Mo)) hNw7 hqw7 hfw7
      refine nq (AQ rfl (yb rfl (cl 93 rfl (AP rfl rfl call165) (KQ gc V vs.length vc gx (⟨on, dn, fi ++ [((((x.id ++ [32]) ++ a.flow) ++ [32]) ++ q)], cm⟩ : Mo) F9 i _ (by first | omega | (simp; omega) | (simp [List.length_eraseIdx]; split <;> omega)) CX (M.ok 0 _ rfl)) ?_)))
      rintro _ w8 ⟨rfl, F10, hNw8, hqw8, hfw8⟩
      refine ⟨_, rfl, ?_⟩
      have M := M.updMo 0 rfl (σ' := (⟨on.eraseIdx i, dn, fi ++ [((((x.id ++ [32]) ++ a.flow) ++ [32]) ++ q)], cm⟩ : Mo)) hNw8 hqw8 hfw8
      refine nq (AQ rfl (yb rfl (cl 96 rfl (AP rfl rfl call60) (NJ gc V vs.length vc gx (⟨on.eraseIdx i, dn, fi ++ [((((x.id ++ [32]) ++ a.flow) ++ [32]) ++ q)], cm⟩ : Mo) F10 q _ (by first | omega | (simp; omega) | (simp [List.length_eraseIdx]; split <;> omega)) (by first | omega | (simp; omega) | (simp [List.length_eraseIdx]; split <;> omega)) (M.ok 0 _ rfl)) ?_)))
      rintro _ w9 ⟨rfl, F11, hNw9, hqw9, hfw9⟩
      refine ⟨_, rfl, ?_⟩
      have M := M.updMo 0 rfl (σ' := (⟨on.eraseIdx i ++ [(⟨q, ((cm + 1 : Nat) : Int), 0, [], false⟩ : Ar)], dn, fi ++ [((((x.id ++ [32]) ++ a.flow) ++ [32]) ++ q)], cm + 1⟩ : Mo)) hNw9 hqw9 hfw9
      refine nq (AQ rfl (gnr (gr1 rfl ?_)))
      have hE2 : chP c vs x = some q := by rw [chP, if_pos h30, hE, B7 hq, chF, AT h52, AT h63, if_pos h71]
      exact ⟨by rw [hE2]; rfl, by rw [Mo.choose, hE2]; exact HF (M.pk [0]), fun hn => by rw [hE2] at hn; cases hn⟩
     ·refine AI (AE (AD (AK (ya rfl (BO rfl rfl rfl AM) (yb rfl (AR (fag ⟨j + 1, rfl, (M.pk [1, 2, 3, 4, 5]), ?_, ?_, rfl⟩)))))))
      ·omega
      ·first
        | rw [hE, B7 hq, chF, if_pos h52]
        | rw [hE, B7 hq, chF, AT h52, AT h63, AT h71]
  ·have h36p := (odf h36)
   refine BF (AG (AG (AV (AD (AF (DP 16 CZ gkr ?_))))))
   have M := M.drew
   refine sb rfl (sb rfl (FL M 0 rfl rfl rfl (sa rfl (GB rfl rfl rfl CX) (sb rfl (sb rfl (sb rfl (FL M 1 rfl rfl rfl (sb rfl ?_))))))))
   obtain ⟨b12_a, o12_a, hA12_a⟩ := BI (k := 5) AM (M.rdOwn 2 rfl) ha
   refine sa rfl (B1 i hA12_a rfl rfl rfl (sl rfl) AM) (sb rfl (sd rfl rfl (DQ Ar.len (M.rdOwn 2 rfl) hA12_a ha 0 rfl) (sa rfl (GB rfl rfl rfl CX) (sa rfl (GB rfl rfl rfl CX) (sb rfl (sa rfl (GB rfl rfl rfl CX) (CS ?_)))))))
   obtain ⟨F13, M⟩ := Mem.closeMo (M.pk [1, 2, 3, 4, 0])
   refine cl 90 rfl (AP rfl rfl call164) (KZ gc V vs.length vc gx (⟨on, dn, fi, cm⟩ : Mo) F13 ((((x.id ++ [32]) ++ a.flow) ++ [32]) ++ x.dflt) _ (by first | omega | (simp; omega) | (simp [List.length_eraseIdx]; split <;> omega)) (M.ok 0 _ rfl)) ?_
   rintro _ w10 ⟨rfl, F14, hNw10, hqw10, hfw10⟩
   refine ⟨_, rfl, ?_⟩
   have M := M.updMo 0 rfl (σ' := (⟨on, dn, fi ++ [((((x.id ++ [32]) ++ a.flow) ++ [32]) ++ x.dflt)], cm⟩ : Mo)) hNw10 hqw10 hfw10
   refine nq (AQ rfl (yb rfl (cl 93 rfl (AP rfl rfl call165) (KQ gc V vs.length vc gx (⟨on, dn, fi ++ [((((x.id ++ [32]) ++ a.flow) ++ [32]) ++ x.dflt)], cm⟩ : Mo) F14 i _ (by first | omega | (simp; omega) | (simp [List.length_eraseIdx]; split <;> omega)) CX (M.ok 0 _ rfl)) ?_)))
   rintro _ w11 ⟨rfl, F15, hNw11, hqw11, hfw11⟩
   refine ⟨_, rfl, ?_⟩
   have M := M.updMo 0 rfl (σ' := (⟨on.eraseIdx i, dn, fi ++ [((((x.id ++ [32]) ++ a.flow) ++ [32]) ++ x.dflt)], cm⟩ : Mo)) hNw11 hqw11 hfw11
   refine nq (AQ rfl (yb rfl (cl 96 rfl (AP rfl rfl call60) (NJ gc V vs.length vc gx (⟨on.eraseIdx i, dn, fi ++ [((((x.id ++ [32]) ++ a.flow) ++ [32]) ++ x.dflt)], cm⟩ : Mo) F15 x.dflt _ (by first | omega | (simp; omega) | (simp [List.length_eraseIdx]; split <;> omega)) (by first | omega | (simp; omega) | (simp [List.length_eraseIdx]; split <;> omega)) (M.ok 0 _ rfl)) ?_)))
   rintro _ w12 ⟨rfl, F16, hNw12, hqw12, hfw12⟩
   refine ⟨_, rfl, ?_⟩
   have M := M.updMo 0 rfl (σ' := (⟨on.eraseIdx i ++ [(⟨x.dflt, ((cm + 1 : Nat) : Int), 0, [], false⟩ : Ar)], dn, fi ++ [((((x.id ++ [32]) ++ a.flow) ++ [32]) ++ x.dflt)], cm + 1⟩ : Mo)) hNw12 hqw12 hfw12
   refine nq (AQ rfl (gnr (gr1 rfl ?_)))
   obtain rfl : j = (c.outs x.id).length := by omega
   have hE2 : chP c vs x = some x.dflt := by rw [chP, if_pos h30, hE, List.drop_length]; rfl
   exact ⟨by rw [hE2]; rfl, by rw [Mo.choose, hE2]; exact HF (M.pk [0]), fun hn => by rw [hE2] at hn; cases hn⟩
 ·have h30p := (odf h30)
  refine AI (AD (AF (DP 16 CZ gkr ?_)))
  have M := M.drew
  refine sb rfl (sb rfl (FL M 0 rfl rfl rfl (sa rfl (GB rfl rfl rfl CX) (sb rfl (sb rfl (sb rfl (FL M 1 rfl rfl rfl (sb rfl ?_))))))))
  obtain ⟨b17_a, o17_a, hA17_a⟩ := BI (k := 5) AM (M.rdOwn 2 rfl) ha
  refine sa rfl (B1 i hA17_a rfl rfl rfl (sl rfl) AM) (sb rfl (sd rfl rfl (DQ Ar.len (M.rdOwn 2 rfl) hA17_a ha 0 rfl) (sa rfl (GB rfl rfl rfl CX) (sa rfl (GB rfl rfl rfl CX) (sb rfl (sa rfl (GB rfl rfl rfl CX) (CS ?_)))))))
  obtain ⟨F18, M⟩ := Mem.closeMo (M.pk [1, 2, 3, 4, 0])
  refine cl 90 rfl (AP rfl rfl call164) (KZ gc V vs.length vc gx (⟨on, dn, fi, cm⟩ : Mo) F18 ((((x.id ++ [32]) ++ a.flow) ++ [32]) ++ z0) _ (by first | omega | (simp; omega) | (simp [List.length_eraseIdx]; split <;> omega)) (M.ok 0 _ rfl)) ?_
  rintro _ w13 ⟨rfl, F19, hNw13, hqw13, hfw13⟩
  refine ⟨_, rfl, ?_⟩
  have M := M.updMo 0 rfl (σ' := (⟨on, dn, fi ++ [((((x.id ++ [32]) ++ a.flow) ++ [32]) ++ z0)], cm⟩ : Mo)) hNw13 hqw13 hfw13
  refine nq (AQ rfl (yb rfl (cl 93 rfl (AP rfl rfl call165) (KQ gc V vs.length vc gx (⟨on, dn, fi ++ [((((x.id ++ [32]) ++ a.flow) ++ [32]) ++ z0)], cm⟩ : Mo) F19 i _ (by first | omega | (simp; omega) | (simp [List.length_eraseIdx]; split <;> omega)) CX (M.ok 0 _ rfl)) ?_)))
  rintro _ w14 ⟨rfl, F20, hNw14, hqw14, hfw14⟩
  refine ⟨_, rfl, ?_⟩
  have M := M.updMo 0 rfl (σ' := (⟨on.eraseIdx i, dn, fi ++ [((((x.id ++ [32]) ++ a.flow) ++ [32]) ++ z0)], cm⟩ : Mo)) hNw14 hqw14 hfw14
  refine nq (AQ rfl (yb rfl (cl 96 rfl (AP rfl rfl call60) (NJ gc V vs.length vc gx (⟨on.eraseIdx i, dn, fi ++ [((((x.id ++ [32]) ++ a.flow) ++ [32]) ++ z0)], cm⟩ : Mo) F20 z0 _ (by first | omega | (simp; omega) | (simp [List.length_eraseIdx]; split <;> omega)) (by first | omega | (simp; omega) | (simp [List.length_eraseIdx]; split <;> omega)) (M.ok 0 _ rfl)) ?_)))
  rintro _ w15 ⟨rfl, F21, hNw15, hqw15, hfw15⟩
  refine ⟨_, rfl, ?_⟩
  have M := M.updMo 0 rfl (σ' := (⟨on.eraseIdx i ++ [(⟨z0, ((cm + 1 : Nat) : Int), 0, [], false⟩ : Ar)], dn, fi ++ [((((x.id ++ [32]) ++ a.flow) ++ [32]) ++ z0)], cm + 1⟩ : Mo)) hNw15 hqw15 hfw15
  refine nq (AQ rfl (gnr (gr1 rfl ?_)))
  have hE2 : chP c vs x = some z0 := by rw [chP, AT h30, hz0]; rfl
  exact ⟨by rw [hE2]; rfl, by rw [Mo.choose, hE2]; exact HF (M.pk [0]), fun hn => by rw [hE2] at hn; cases hn⟩
theorem iT (g9 : Nat) (f : List UInt8) (b : Ar) (w : World) (hb : Blk w g9 9 [str f]) :
 Calls prog 168 #[.agg b.cells.toArray, pg g9] w (CG w (.bool (decide (b.flow = f)))) := by
 refine C5 func168 ntmps168 rfl fun M => srg (CR M rfl rfl fun g2 w1 hg2 M => AY rfl (AQ rfl (BC M 0 rfl rfl rfl (yl rfl rfl (Blk.c (hb.fr0 M.fr) 0 rfl) (ya rfl (DM rfl rfl rfl) (yb rfl (AR ?_)))))))
 exact AD (BN (gr1 rfl ⟨rfl, M.fr⟩))
theorem nH (we : World) (m : Md) (gc : Nat) (c : CrA) (Fc : List Nat) (V : Option Addr) (vn vc gx : Nat) (σ : Mo) (F : List Nat) (i : Nat) (x : El) (w : World) (ho : MdOk m) (hnd : (c.ins x.id).Nodup) (hil : (c.ins x.id).length ≤ 400) (h1 : σ.on.length ≤ 500000) (h2 : σ.fired.length ≤ 500000) (h3 : σ.came ≤ 500000000) (hC : CourseN we m gc c Fc) (hwe : Fr0 we w) (hFe : ∀ g ∈ F, we.heap.size ≤ g) (hN : MoN w gc V vn vc gx σ F) :
 Calls prog 150 #[pg gx, AJ ((i : Nat) : Int), .agg x.cells.toArray] w fun e w' => e = .returned (.bool ((c.ins x.id).all (fun f => decide (0 ≤ jIx σ.on f)))) ∧ PZ gc V vn vc gx (if (c.ins x.id).all (fun f => decide (0 ≤ jIx σ.on f)) = true then σ.join c x else σ) F w w' ∧ ((c.ins x.id).all (fun f => decide (0 ≤ jIx σ.on f)) = false → ∀ u, Cell w.heap gx 2 u → Cell w'.heap gx 2 u) := by
 obtain ⟨on, dn, fi, cm⟩ := σ
 dsimp only at h1 h2 h3
 have hnf := ho.nfls
 have hol := hC.lenO x.id
 refine BE (vs := [_, _, _]) func150 rfl ntmps150 rfl ?_
 have M : Mem w (fun k => k ∈ F) [As.mo gc V vn vc gx (⟨on, dn, fi, cm⟩ : Mo) F] w := Mem.oneMo hN
 obtain ⟨x1, M⟩ := Mem.openMo M
 replace M : Mem w (fun k => k ∈ F) [As.blk gx 124 [pg gc, .slice V vn vc, .slice x1.A on.length x1.a, .slice x1.B dn.length x1.b, .slice x1.C fi.length x1.c, AJ ((cm : Nat) : Int)], As.own 0 126 5 (.slice x1.A on.length x1.a) on.length (AH Ar.cells on), As.own 0 126 5 (.slice x1.B dn.length x1.b) dn.length (AH Ar.cells dn), As.own 0 9 1 (.slice x1.C fi.length x1.c) fi.length (AH BY fi)] w := M
 have hc0 := M.cell 0 (off := 2) rfl rfl
 refine srg (CR M rfl rfl fun g5 w1 hg5 M => AY rfl (srg (AY rfl (AF (AF (ER CZ gkr ?_))))))
 have M := M.drew
 refine sb rfl (sb rfl (sb rfl (FL M 1 rfl rfl rfl (sb rfl (sb rfl (sa rfl (BW rfl rfl (sc rfl) (Blk.c ((hC.fr0 (CA hwe M.fr hFe)).blk) 7 rfl)) (sb rfl (FL M 0 rfl rfl rfl (sa rfl (BT rfl rfl rfl underlying64 underlying9 DH ((hC.fr0 (CA hwe M.fr hFe)).I) (hC.getI _)) (sa rfl (C3 rfl rfl (sl rfl)) (sb rfl (FA (AD (AS ?_))))))))))))))
 have M := M.nilOwn 3 1
 refine flp [25, 24, 5, 0] (fun ze e wr mz => ∃ (j : Nat) (acc : List Int) (A7 : Option Addr) (c7 : Nat), e = (7, .slice A7 acc.length c7) :: (26, AJ ((j : Nat) : Int)) :: ze ∧ Mem w (fun k => k ∈ F) [As.own w.heap.size 3 1 (.slice A7 acc.length c7) acc.length (AH NQ acc), As.blk g5 69 (El.cells x), As.blk gx 124 [pg gc, .slice V vn vc, .slice x1.A on.length x1.a, .slice x1.B dn.length x1.b, .slice x1.C fi.length x1.c, AJ ((cm : Nat) : Int)], As.own 0 126 5 (.slice x1.A on.length x1.a) on.length (AH Ar.cells on), As.own 0 126 5 (.slice x1.B dn.length x1.b) dn.length (AH Ar.cells dn), As.own 0 9 1 (.slice x1.C fi.length x1.c) fi.length (AH BY fi)] wr ∧ (j ≤ (c.ins x.id).length) ∧ (acc = ((c.ins x.id).take j).map (jIx on) ∧ acc.length = j) ∧ ((c.ins x.id).all (fun f => decide (0 ≤ jIx on f)) = ((c.ins x.id).drop j).all (fun f => decide (0 ≤ jIx on f))) ∧ mz = (c.ins x.id).length - j) ⟨0, [], none, 0, rfl, M, Nat.zero_le _, ⟨rfl, rfl⟩, rfl, rfl⟩ ?_
 rintro _ w2 _ ⟨j, acc, A7, c7, rfl, M, hj, hacc, hpos, rfl⟩
 refine srg (CF rfl rfl (nq (AF (AL (b := (decide (((j : Nat) : Int) < (((c.ins x.id).length : Nat) : Int)))) rfl (fun h27 => ?_) (fun h27 => ?_)))))
 ·have h27p := (odt h27)
  refine AI (AD (AF (AS (srg ?_))))
  obtain ⟨f, hf⟩ := CC (l := (c.ins x.id)) (i := j) AM
  obtain ⟨b_f, o_f, hA_f⟩ := BI (k := 1) AM ((hC.fr0 (CA hwe M.fr hFe)).rdI _) hf
  refine ya rfl (B1 j hA_f rfl rfl rfl (sl rfl) AM) (ya rfl (BW rfl rfl (sc rfl) (DQ E0 ((hC.fr0 (CA hwe M.fr hFe)).rdI _) hA_f hf 0 rfl)) (DJ M (AA rfl) rfl rfl 9 rfl [str []] aV rfl fun g9 w3 hg9 M => D0 (cs' := [str f]) M 0 (AA rfl) rfl rfl rfl rfl rfl rfl rfl G5 (CO rfl) rfl fun w4 M => nq (AQ rfl (BM rfl rfl (BC M 3 rfl rfl rfl (ya rfl (DE (us := []) (vs := [pg g9]) rfl rfl rfl) (cl 35 rfl (AP rfl rfl call167) (nW Ar.cells Ar.len x1.A x1.a on AM 168 [pg g9] (fun (_ : Nat) (b : Ar) => decide (b.flow = f)) B0 (fun _ _ => True) _ (GN call168 (fun b _ w9 hf9 => iT g9 f b w9 ((M.blk 0 rfl).fr0 hf9))) (fun _ hf9 => (M.rdOwn 4 rfl).fr0 hf9) trivial) ?_)))))))
  rintro _ w5 ⟨rfl, _, hfw5⟩
  refine ⟨_, rfl, ?_⟩
  have M := M.step hfw5
  refine AY rfl (AF (AQ rfl (CF rfl rfl (nq (AL (b := (decide ((jIx on f) < (0 : Int)))) rfl (fun h37 => ?_) (fun h37 => ?_))))))
  ·have h37p := (odt h37)
   refine AQ rfl (gnr (AB (AN (AB (AB (AN (AB (gr1 rfl ?_))))))))
   have hb : (c.ins x.id).all (fun f => decide (0 ≤ jIx on f)) = false := by rw [hpos, B7 hf, List.all_cons, decide_eq_false (show ¬ 0 ≤ jIx on f by omega)]; rfl
   have hc1 := M.cell 3 (off := 2) rfl rfl
   obtain ⟨F5, M⟩ := Mem.closeMo (M.pk [3, 4, 5, 6, 0, 1, 2])
   exact ⟨by rw [hb], by rw [hb]; exact HF (M.pk [0]), fun _ u hu => VA hu hc0 ▸ hc1⟩
  ·have h37p := (odf h37)
   refine AI (AD (AK (BM rfl rfl (DF M (AA rfl) rfl rfl [AJ (jIx on f)] ([AJ (jIx on f)]) rfl rfl rfl rfl underlying215 ZX rfl rfl (HE rfl) rfl fun g40 w6 hg40 M => EH (len' := (acc ++ [(jIx on f)]).length) (xs' := AH NQ (acc ++ [(jIx on f)])) M 2 (AA rfl) rfl rfl rfl rfl rfl rfl (M.rdBlk 0 rfl rfl) underlying215 j1 rfl BU (BP rfl) (Nat.le_refl _) (Nat.le_refl _) CX (by unfold maxLen; first | omega | (simp only [List.length_append, List.length_cons, List.length_nil]; omega)) (by simp) (by first | exact (C1 _ _ _).symm | simp [AH, NQ]) fun A41 c41 w7 M => yb rfl (AR (AE (AD (AK (ya rfl (BO rfl rfl rfl AM) (yb rfl ?_))))))))))
   refine AR (fag ⟨j + 1, acc ++ [(jIx on f)], A41, c41, rfl, (M.pk [2, 3, 4, 5, 6, 7]), ?_, ?_, ?_, rfl⟩)
   ·omega
   ·exact ⟨by rw [hacc.1, B4 hf, List.map_append]; rfl, by rw [List.length_append, hacc.2]; rfl⟩
   ·rw [hpos, B7 hf, List.all_cons, decide_eq_true (show 0 ≤ jIx on f by omega)]; rfl
 ·have h27p := (odf h27)
  refine BF (AG (AG ?_))
  obtain rfl : j = (c.ins x.id).length := by omega
  have hb : (c.ins x.id).all (fun f => decide (0 ≤ jIx on f)) = true := by rw [hpos, List.drop_length]; rfl
  have hac := hacc.1
  rw [List.take_length] at hac
  have hacl := hacc.2
  refine AV (AD (AQ rfl (yb rfl (BC M 1 rfl rfl rfl ?_))))
  obtain ⟨F7, M⟩ := Mem.closeMo (M.pk [2, 3, 4, 5, 0, 1])
  refine cl 46 rfl (AP rfl rfl call164) (KZ gc V vn vc gx (⟨on, dn, fi, cm⟩ : Mo) F7 x.id _ (by first | omega | (simp; omega) | (simp [List.length_eraseIdx]; split <;> omega)) (M.ok 0 _ rfl)) ?_
  rintro _ w8 ⟨rfl, F8, hNw8, hqw8, hfw8⟩
  refine ⟨_, rfl, ?_⟩
  have M := M.updMo 0 rfl (σ' := (⟨on, dn, fi ++ [x.id], cm⟩ : Mo)) hNw8 hqw8 hfw8
  refine nq (AQ rfl (cl 48 rfl (AP rfl rfl call169) (m7 (zs := acc) (n := acc.length) _ rfl (M.own 1 rfl) AM) ?_))
  rintro _ w9 ⟨rfl, how9, hfw9⟩
  refine ⟨_, rfl, ?_⟩
  have M := M.upd 1 rfl hfw9 (As.own _ 3 1 (.slice A7 acc.length c7) acc.length (AH NQ (HQ acc))) how9 (fun g hg => .inl hg)
  refine nq (AQ rfl (cl 50 rfl (AP rfl rfl call170) (pX (zs := (HQ acc)) (n := acc.length) _ (PF _) (M.own 1 rfl) AM) ?_))
  rintro _ w10 ⟨rfl, how10, hfw10⟩
  refine ⟨_, rfl, ?_⟩
  have M := M.upd 1 rfl hfw10 (As.own _ 3 1 (.slice A7 acc.length c7) acc.length (AH NQ (List.reverse (HQ acc)))) how10 (fun g hg => .inl hg)
  refine nq (AF (AQ rfl (ya rfl (C3 rfl rfl (sl rfl)) (AY rfl (AS ?_)))))
  obtain ⟨fi1, hfi1⟩ : ∃ fi1, fi1 = fi ++ [x.id] := ⟨_, rfl⟩
  rw [← hfi1] at M
  obtain ⟨ks, hks, hkl⟩ : ∃ ks, ks = (HQ acc).reverse ∧ ks.length = acc.length := ⟨_, rfl, by rw [List.length_reverse, PF]⟩
  rw [← hks] at M
  refine flp [52, 51, 5, 0] (fun ze e wr mz => ∃ (j2 : Nat) (on1 : List Ar) (F1 : List Nat), e = (53, AJ ((j2 : Nat) : Int)) :: ze ∧ Mem w (fun k => k ∈ F) [As.mo gc V vn vc gx (⟨on1, dn, fi1, cm⟩ : Mo) F1, As.own w.heap.size 3 1 (.slice A7 acc.length c7) acc.length (AH NQ ks), As.blk g5 69 (El.cells x)] wr ∧ (j2 ≤ ks.length) ∧ (on1 = (ks.take j2).foldl erI on) ∧ (on1.length ≤ 500000) ∧ (okE (ks.drop j2) on1.length) ∧ mz = ks.length - j2) ⟨0, on, _, rfl, M, Nat.zero_le _, rfl, h1, (hks ▸ mU hnd hac hb), rfl⟩ ?_
  rintro _ w11 _ ⟨j2, on1, F1, rfl, M, hj2, hE1, hl1, hokE, rfl⟩
  refine srg (CF rfl rfl (nq (AF (AL (b := (decide (((j2 : Nat) : Int) < ((acc.length : Nat) : Int)))) rfl (fun h54 => ?_) (fun h54 => ?_)))))
  ·have h54p := (odt h54)
   refine AI (AD (AF (AS (srg ?_))))
   obtain ⟨z, hz⟩ := CC (l := ks) (i := j2) AM
   obtain ⟨kn, rfl, hkn⟩ := qB hokE hz
   obtain ⟨b55, o55, hA55⟩ := BI (k := 1) AM (gJ (M.rdOwn 1 rfl) (by rw [hkl])) hz
   refine ya rfl (B1 j2 hA55 rfl rfl rfl (sl rfl) AM) (yl rfl rfl (DQ WN (gJ (M.rdOwn 1 rfl) (by rw [hkl])) hA55 hz 0 rfl) (AY rfl (AK (BM rfl rfl (cl 59 rfl (AP rfl rfl call165) (KQ gc V vn vc gx (⟨on1, dn, fi1, cm⟩ : Mo) F1 kn _ (by first | omega | (simp; omega) | (simp [List.length_eraseIdx]; split <;> omega)) hkn (M.ok 0 _ rfl)) ?_)))))
   rintro _ w12 ⟨rfl, F9, hNw12, hqw12, hfw12⟩
   refine ⟨_, rfl, ?_⟩
   have M := M.updMo 0 rfl (σ' := (⟨on1.eraseIdx kn, dn, fi1, cm⟩ : Mo)) hNw12 hqw12 hfw12
   refine AR (AE (AD (AK (ya rfl (BO rfl rfl rfl AM) (yb rfl (AR (fag ⟨j2 + 1, on1.eraseIdx kn, F9, rfl, M, ?_, ?_, ?_, ?_, rfl⟩)))))))
   ·omega
   ·rw [B4 hz, List.foldl_append, ← hE1]; rfl
   ·rw [List.length_eraseIdx]; split <;> omega
   ·exact hX hokE hz
  ·have h54p := (odf h54)
   refine BF (AG (AG ?_))
   obtain rfl : j2 = ks.length := by omega
   rw [List.take_length] at hE1
   refine AV (AD (AF (AF ?_)))
   obtain ⟨x10, M⟩ := Mem.openMo M
   replace M : Mem w (fun k => k ∈ F) [As.blk gx 124 [pg gc, .slice V vn vc, .slice x10.A on1.length x10.a, .slice x10.B dn.length x10.b, .slice x10.C fi1.length x10.c, AJ ((cm : Nat) : Int)], As.own 0 126 5 (.slice x10.A on1.length x10.a) on1.length (AH Ar.cells on1), As.own 0 126 5 (.slice x10.B dn.length x10.b) dn.length (AH Ar.cells dn), As.own 0 9 1 (.slice x10.C fi1.length x10.c) fi1.length (AH BY fi1), As.own w.heap.size 3 1 (.slice A7 acc.length c7) acc.length (AH NQ ks), As.blk g5 69 (El.cells x)] w11 := M
   refine ER CZ gkr ?_
   have M := M.drew
   refine sb rfl (sb rfl (sb rfl (FL M 0 rfl rfl rfl (sb rfl (sb rfl (sa rfl (BW rfl rfl (sc rfl) (Blk.c ((hC.fr0 (CA hwe M.fr hFe)).blk) 8 rfl)) (sb rfl (FL M 5 rfl rfl rfl (sa rfl (BT rfl rfl rfl underlying64 underlying9 DH ((hC.fr0 (CA hwe M.fr hFe)).O) (hC.getO _)) (sa rfl (C3 rfl rfl (sl rfl)) (sb rfl (FA (AD (AS ?_))))))))))))))
   obtain ⟨F11, M⟩ := Mem.closeMo (M.pk [0, 1, 2, 3, 4, 5])
   refine flp [71, 70, 0] (fun ze e wr mz => ∃ (j3 : Nat) (on2 : List Ar) (cm1 : Nat) (F2 : List Nat), e = (72, AJ ((j3 : Nat) : Int)) :: ze ∧ Mem w (fun k => k ∈ F) [As.mo gc V vn vc gx (⟨on2, dn, fi1, cm1⟩ : Mo) F2, As.own w.heap.size 3 1 (.slice A7 acc.length c7) acc.length (AH NQ ks), As.blk g5 69 (El.cells x)] wr ∧ (j3 ≤ (c.outs x.id).length) ∧ ((⟨on2, dn, fi1, cm1⟩ : Mo) = Mo.puts ⟨on1, dn, fi1, cm⟩ ((c.outs x.id).take j3)) ∧ (on2.length ≤ 500000 + j3) ∧ (cm1 ≤ 500000000 + j3) ∧ mz = (c.outs x.id).length - j3) ⟨0, on1, cm, _, rfl, M, Nat.zero_le _, rfl, by omega, by omega, rfl⟩ ?_
   rintro _ w13 _ ⟨j3, on2, cm1, F2, rfl, M, hj3, hE3, hb1, hb2, rfl⟩
   refine srg (CF rfl rfl (nq (AF (AL (b := (decide (((j3 : Nat) : Int) < (((c.outs x.id).length : Nat) : Int)))) rfl (fun h73 => ?_) (fun h73 => ?_)))))
   ·have h73p := (odt h73)
    refine AI (AD (AF (AS (srg ?_))))
    obtain ⟨q, hq⟩ := CC (l := (c.outs x.id)) (i := j3) AM
    obtain ⟨b_q, o_q, hA_q⟩ := BI (k := 1) AM ((hC.fr0 (CA hwe M.fr hFe)).rdO _) hq
    refine ya rfl (B1 j3 hA_q rfl rfl rfl (sl rfl) AM) (ya rfl (BW rfl rfl (sc rfl) (DQ E0 ((hC.fr0 (CA hwe M.fr hFe)).rdO _) hA_q hq 0 rfl)) (AY rfl (AK (BM rfl rfl (cl 78 rfl (AP rfl rfl call60) (NJ gc V vn vc gx (⟨on2, dn, fi1, cm1⟩ : Mo) F2 q _ (by first | omega | (simp; omega) | (simp [List.length_eraseIdx]; split <;> omega)) (by first | omega | (simp; omega) | (simp [List.length_eraseIdx]; split <;> omega)) (M.ok 0 _ rfl)) ?_)))))
    rintro _ w14 ⟨rfl, F13, hNw14, hqw14, hfw14⟩
    refine ⟨_, rfl, ?_⟩
    have M := M.updMo 0 rfl (σ' := (⟨on2 ++ [(⟨q, ((cm1 + 1 : Nat) : Int), 0, [], false⟩ : Ar)], dn, fi1, cm1 + 1⟩ : Mo)) hNw14 hqw14 hfw14
    refine AR (AE (AD (AK (ya rfl (BO rfl rfl rfl AM) (yb rfl (AR (fag ⟨j3 + 1, on2 ++ [(⟨q, ((cm1 + 1 : Nat) : Int), 0, [], false⟩ : Ar)], cm1 + 1, F13, rfl, M, ?_, ?_, ?_, ?_, rfl⟩)))))))
    ·omega
    ·rw [B4 hq, Mo.puts_snoc, ← hE3]; rfl
    ·simp; omega
    ·omega
   ·have h73p := (odf h73)
    refine BF (AG (AG ?_))
    obtain rfl : j3 = (c.outs x.id).length := by omega
    rw [List.take_length] at hE3
    exact AV (AD (AQ rfl (gnr (gr1 rfl ⟨by rw [hb], by rw [hb]; exact iS hks hac hfi1 hE1 hE3 (M.pk [0]), fun hn => by rw [hb] at hn; cases hn⟩))))
end Go.Proofs.YtjaocmocdhckaaaGreatDoor
