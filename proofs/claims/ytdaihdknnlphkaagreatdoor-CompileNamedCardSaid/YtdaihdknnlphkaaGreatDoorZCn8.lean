/- Lemmas that the last text rests on. Condition: each says its own. -/
import Derived.Test.YtdaihdknnlphkaaGreatDoorZCn7
import Derived.Test.YtdaihdknnlphkaaGreatDoorZCompRun
set_option maxHeartbeats 16000000
set_option maxRecDepth 100000
namespace Go.Proofs.YtdaihdknnlphkaaGreatDoor
open Go.RowKit
open Tryz
structure MdStr (m : Md) : Prop where
 id : (m.id.length : Int) < 4611686018427387904
 nm : (m.nm.length : Int) < 4611686018427387904
 vars : BdOk m.vars
 els : ∀ x ∈ m.els, ElOk x
 fls : ∀ x ∈ m.fls, FlOk x
theorem MdStr.ok {m : Md} (h : MdStr m) (hl : KH m = false) : MdOk m := by
 have h1 := odf (CE (CE hl).1).1
 have h2 := odf (CE (CE hl).1).2
 have h3 := odf (CE hl).2
 exact ⟨h.id, h.nm, h.vars, by omega, by omega, by omega, h.els, h.fls⟩
theorem iY (m : Md) : KH m.zz = KH m := by unfold KH; simp only [List.length_map]
def As.nt (m : Md) (A B : Option Addr) (rs : List TrR) (F : List Nat) : As := ⟨F, fun w => (EA m).2.2 = 0 → NetN w A B rs (CU m) (EF m) F, fun h hb h0 => (hb h0).keep h⟩
theorem Mem.nt {w0 w : World} {S : Nat → Prop} {L : List As} {m : Md} {A B : Option Addr} {rs : List TrR} {F : List Nat} (M : Mem w0 S L w) (i : Nat) (hi : L[i]? = some (As.nt m A B rs F)) (h0 : (EA m).2.2 = 0) : NetN w A B rs (CU m) (EF m) F := M.ok i _ hi h0
theorem dT (m : Md) (a : MdA) (w : World) (ho : MdOk m) (hM : MdIn w m a) (hY : Lay0 w) :
 Calls prog 6 #[.agg (Md.cells m a).toArray] w fun e w' => ∃ A nA c B nB d fin rs F, e = .returned (.tuple #[.agg #[.slice A nA c, .slice B nB d, .int .i64 0, .int .i64 fin], .int .i64 (EA m).2.2]) ∧ ((EA m).2.2 = 0 → nA = (CU m).length ∧ nB = (EF m).length ∧ fin = 1 ∧ rs.length = (EF m).length) ∧ (As.nt m A B rs F).ok w' ∧ (∀ g ∈ (As.nt m A B rs F).fp, w.heap.size ≤ g ∧ g < w'.heap.size) ∧ Fr0 w w' := by
 refine (vW m a w ho hM hY).mono ?_
 rintro e w' ⟨h, hf⟩
 rcases h with ⟨h0, rfl⟩ | ⟨h0, A, c, B, d, rs, F, rfl, hN, hq⟩
 ·exact ⟨none, 0, 0, none, 0, 0, 0, [], [], rfl, fun h => absurd h h0, fun h => absurd h h0, (fun g hg => by cases hg), hf⟩
 ·have hl := hN.ok.1
  exact ⟨A, _, c, B, _, d, 1, rs, F, by rw [h0], fun _ => ⟨rfl, hl.symm, rfl, hl.symm⟩, fun _ => hN, hq, hf⟩
theorem dN (m : Md) : (CU m.zz).length = (CU m).length := by
 rw [W0, CU]; simp only [List.length_append, List.length_map]; omega
theorem XM {m : Md} (hi : Ids m) : (EF m.zz).length = (EF m).length := by
 have := congrArg List.length (kW hi)
 simpa using this
theorem vV (m : Md) (a : MdA) (w : World) (ho : MdOk m.zz) (h0 : (EA m).2.2 = 0) (h0z : (EA m.zz).2.2 = 0) (hV : Rd w a.V (m.vars.length * 5) (AS Bd.cells m.vars)) (hE : Rd w a.E (m.els.length * 11) (AS El.cells (m.els.map El.zz))) (hF : Rd w a.F (m.fls.length * 4) (AS Fl.cells (m.fls.map Fl.zz))) (hY : Lay0 w) :
 Calls prog 6 #[.agg #[str (zz m.id), str m.nm, .slice a.V m.vars.length a.vc, .slice a.E m.els.length a.ec, .slice a.F m.fls.length a.fc]] w fun e w' => ∃ A c B d rs F, e = .returned (.tuple #[.agg #[.slice A (CU m).length c, .slice B (EF m).length d, .int .i64 0, .int .i64 1], .int .i64 0]) ∧ rs.length = (EF m).length ∧ (As.nt m.zz A B rs F).ok w' ∧ (∀ g ∈ (As.nt m.zz A B rs F).fp, w.heap.size ≤ g ∧ g < w'.heap.size) ∧ Fr0 w w' := by
 have h := dT m.zz a w ho ⟨hV, by simpa using hE, by simpa using hF⟩ hY
 have hc : (Md.cells m.zz a).toArray = #[str (zz m.id), str m.nm, .slice a.V m.vars.length a.vc, .slice a.E m.els.length a.ec, .slice a.F m.fls.length a.fc] := by
  unfold Md.cells; simp only [List.length_map]
 rw [hc] at h
 refine h.mono ?_
 rintro e w' ⟨A, nA, c, B, nB, d, fin, rs, F, rfl, h1, h2, h3, h4⟩
 obtain ⟨rfl, rfl, rfl, hr⟩ := h1 h0z
 have ht := XM (WK h0)
 rw [dN, ht, h0z]
 exact ⟨A, c, B, d, rs, F, rfl, by rw [hr, ht], h2, h3, h4⟩
theorem mE (m : Md) : 2 ≤ (CU m).length := by unfold CU; simp only [List.length_append, List.length_cons]; omega
theorem R6 {P : Program} {e : Env} {w : World} {o : Oper} {t t' : Nat} {k : IntKind} {a : Int} {x y : Operand} (ho : o.op = .binOp .neq t x y t') (hx : ev e x = some (.int k a)) (hy : ev e y = some (.int k a)) : Y P e o w (.bool false) := by
 have := CX (P := P) (w := w) ho hx hy
 simpa using this
theorem L4 {w : World} {A : Option Addr} {n k : Nat} {xs : List Value} (h : Rd w A n xs) (hn : n = k) : Rd w A k xs := hn ▸ h
theorem ID {α : Type} {l k : List α} {i : Nat} {x : α} (h : l.drop i = k.drop i) (hx : l[i]? = some x) : k[i]? = some x := by
 have := congrArg (fun z => z[0]?) h
 simp only [List.getElem?_drop, Nat.add_zero] at this
 rw [← this]; exact hx
theorem U6 {α : Type} {l k : List α} {i : Nat} {x : α} (h : l.drop i = k.drop i) : (l.set i x).drop (i + 1) = k.drop (i + 1) := by
 rw [List.drop_set_of_lt (by omega)]
 have := congrArg (List.drop 1) h
 rwa [List.drop_drop, List.drop_drop] at this
theorem U5 {α : Type} {l k : List α} {f : α → α} {i : Nat} {x : α} (h : l.take i = (k.take i).map f) (hx : l[i]? = some x) (hk : k[i]? = some x) : (l.set i (f x)).take (i + 1) = (k.take (i + 1)).map f := by
 have h1 := B3 hk
 have h2 : (l.set i (f x)).take (i + 1) = (l.set i (f x)).take i ++ [f x] := B3 (List.getElem?_set_self (List.getElem?_eq_some_iff.1 hx).1)
 rw [h2, h1, List.take_set_of_le (Nat.le_refl _), h, List.map_append]; rfl
theorem RL {α : Type} {f : α → List UInt8} {k : List α} {i : Nat} {x : α} (h : ∀ z ∈ k.take i, (f z).length ≤ 31) (hk : k[i]? = some x) (hx : (f x).length ≤ 31) : ∀ z ∈ k.take (i + 1), (f z).length ≤ 31 := fun z hz => by
 rw [B3 hk] at hz
 rcases List.mem_append.1 hz with hz | hz
 ·exact h z hz
 ·obtain rfl : z = x := by simpa using hz
  exact hx
theorem xU {l k : List Tr1} {i : Nat} {t u : Tr1} (h : l.map Tr1.io = k.map Tr1.io) (hu : k[i]? = some t) (ht : l[i]? = some u) : t.ins = u.ins ∧ t.outs = u.outs := by
 have := congrArg (fun z => z[i]?) h
 simp only [List.getElem?_map, hu, ht, Option.map_some, Option.some.injEq, Tr1.io, Prod.mk.injEq] at this
 exact ⟨this.1.symm, this.2.symm⟩
theorem vL {m : Md} {k : Nat} {x y : List UInt8} (h0 : (EA m).2.2 = 0) (hk : 2 ≤ k) (hx : (CU m.zz)[k]? = some x) (hy : (CU m)[k]? = some y) : x = [90] ++ y := by
 rw [W0, List.getElem?_append_right (by simpa using hk), List.getElem?_map] at hx
 rw [CU, List.append_assoc, List.getElem?_append_right (by simpa using hk)] at hy
 rw [hy] at hx
 simp only [Option.map_some, Option.some.injEq] at hx
 have := (LU (OJ (WK h0) (List.mem_of_getElem? hy))).2.2
 rw [← hx, zz, if_neg this]; rfl
theorem hZ {m : Md} {k : Nat} {y : List UInt8} (h0 : (EA m).2.2 = 0) (hk : 2 ≤ k) (hy : (CU m)[k]? = some y) : y.length ≤ 32 := by
 rw [CU, List.append_assoc, List.getElem?_append_right (by simpa using hk)] at hy
 exact E0 (OJ (WK h0) (List.mem_of_getElem? hy))
theorem rI {m : Md} (ho : MdOk m) : (CU m).length ≤ 602 := by
 have h1 := List.length_filter_le (fun f : Fl => !decide ((((AO m.els f.frm).getD zeroEl).kind.toNat : Int) = 7)) m.fls
 have h2 := List.length_filter_le (FP m) m.els
 have := ho.nfls
 have := ho.nels
 unfold CU RV RW
 simp only [List.length_append, List.length_cons, List.length_nil, List.length_map]
 omega
theorem qK {m : Md} (ho : MdOk m) : (EF m).length ≤ 32000000 := by
 have h := bM (l := m.els) (n := 160000) fun y _ => RA ho y
 have := ho.nels
 unfold EF
 rw [List.length_map]
 omega
theorem vK {x y : List UInt8} {p : Prop} (h : ¬ x = y) (h2 : x = y) : p := absurd h2 h
theorem Y6 (pl l : List (List UInt8)) : (DT pl l).length = l.length := by unfold DT; rw [List.length_mergeSort, List.length_map]
theorem tA {m : Md} (ho : MdOk m) (y : El) : ∀ t ∈ CV m y, t.frm.length ≤ 400 ∧ t.tg.length ≤ 400 := by
 have hI : ∀ k, (E6 m k).length ≤ 400 := fun k => Nat.le_trans (SL m k) ho.nfls
 have hO : ∀ k, (CJ m k).length ≤ 400 := fun k => Nat.le_trans (LT m k) ho.nfls
 have hT : ∀ t ∈ IZ y (E6 m y.id) (CJ m y.id), t.frm.length ≤ 400 ∧ t.tg.length ≤ 400 := by
  intro t ht
  unfold IZ at ht
  rcases List.mem_cons.1 ht with rfl | ht
  ·exact ⟨hI _, by simp⟩
  ·obtain rfl : t = _ := by simpa using ht
   exact ⟨by simp, hO _⟩
 intro t ht
 unfold CV at ht
 split at ht
 ·split at ht
  ·obtain rfl : t = _ := by simpa using ht
   exact ⟨by simp, hO _⟩
  ·cases ht
 split at ht
 ·obtain rfl : t = _ := by simpa using ht
  refine ⟨hI _, ?_⟩
  show (if y.inn = [] then [sOut] else CJ m y.inn).length ≤ 400
  split
  ·simp
  ·exact hO _
 split at ht
 ·exact hT t ht
 split at ht
 ·obtain ⟨a, _, h⟩ := List.mem_flatMap.1 ht
  obtain ⟨b, _, rfl⟩ := List.mem_map.1 h
  exact ⟨by simp, by simp⟩
 split at ht
 ·obtain rfl : t = _ := by simpa using ht
  exact ⟨hI _, hO _⟩
 split at ht
 ·obtain rfl : t = _ := by simpa using ht
  exact ⟨hI _, by simp⟩
 split at ht
 ·split at ht
  ·obtain rfl : t = _ := by simpa using ht
   exact ⟨by simp, hO _⟩
  ·exact hT t ht
 split at ht
 ·obtain ⟨b, _, rfl⟩ := List.mem_map.1 ht
  exact ⟨by simp, hO _⟩
 ·obtain rfl : t = _ := by simpa using ht
  exact ⟨hI _, hO _⟩
theorem qJ {m : Md} (ho : MdOk m) {i : Nat} {t : Tr1} (h : (EF m)[i]? = some t) : t.ins.length ≤ 100000 ∧ t.outs.length ≤ 100000 := by
 unfold EF at h
 obtain ⟨u, hu, rfl⟩ := List.mem_map.1 (List.mem_of_getElem? h)
 obtain ⟨y, _, hy⟩ := List.mem_flatMap.1 hu
 obtain ⟨h1, h2⟩ := tA ho y u hy
 show (DT (CU m) u.frm).length ≤ 100000 ∧ (DT (CU m) u.tg).length ≤ 100000
 rw [Y6, Y6]; omega
theorem PQ {P : Program} {ops : Array Oper} {Q : Exit → Act → World → Prop} {t : Nat} : ∀ (fuel : Nat) (listed : Array Bool) (a : Act) (w : World), wpAny P .any ops Q fuel listed a w → HT P ops Q t (fun _ => True) fuel listed a w
 | 0, _, _, _, h => h
 | fuel + 1, _, _, _, h => ⟨h.1, fun i hi => wpOp_mono (fun a' w' h' => ⟨fun _ => trivial, PQ fuel _ a' w' h'⟩) (h.2 i hi)⟩
theorem aC {P : Program} {ops : Array Oper} {Q : Exit → Act → World → Prop} {t1 n f : Nat} {listed : Array Bool} {e : Env} {w : World} (t : Nat) (S : World → Prop) (k : SxO P ops Q t S n f listed e w) : SxO P ops Q t1 (fun _ => True) n f listed e w :=
 ⟨fun a ha => PQ _ _ _ _ (MW _ _ _ _ (k.run a ha))⟩
theorem MC (a0 : List UInt8) (a1 : List UInt8) (a2 : List UInt8) (a3 : List UInt8) : prog.built 41 [(0, str a0), (1, str a1), (2, str a2), (3, str a3)] = some #[str a0, str a1, str a2, str a3] := by kernel_rfl
theorem OA (m : Md) (a : MdA) (w : World) (hs : MdStr m) (hz : MdStr m.zz) (hM : MdIn w m a) (hY : Lay0 w) :
 Calls prog 3 #[.agg (Md.cells m a).toArray] w fun e w' => e = .returned (.bool true) ∧ Fr0 w w' := by
 refine AJ (vs := [_]) func3 rfl ntmps3 rfl ?_
 have M := CN w
 refine A9 (A0 (B4 M (AA rfl) rfl rfl 26 rfl rfl (Md.cells m a) rfl fun g1 w1 hg1 M => yb rfl (A4 (A5 (A9 (A9 (A0 (ya rfl (AU (xs := Md.cells m a) rfl rfl (M.rdBlk 0 rfl rfl) underlying26 rfl BC) (cp M 15 rfl (AE rfl rfl call4) (iZ m a _) fun w2 M => yb rfl (AX 3 [(1, pg g1), (19, .bool ((KH m) || false))] (fun w' => Mem w AD [As.blk g1 26 (Md.cells m a)] w') ?_ (fun k16 => ?_)))))))))))
 ·intro w3 M
  refine A4 (A5 (AT (b := ((KH m) || false)) rfl (fun h19 => ?_) (fun h19 => ?_)))
  ·have h19p := ((EL h19).imp (fun z => z) (fun z => z))
   exact A9 (A0 (cp M 20 rfl (AE rfl rfl call5) (QB _) fun w4 M => yb rfl (A4 (A5 (AF (AB (AK rfl rfl ⟨rfl, M.fr⟩)))))))
  ·have h19p := (And.intro (CE h19).1 (CE h19).2)
   have hl : KH m = false := by simpa using h19
   have ho := hs.ok hl
   have hne := ho.nels
   have hnf := ho.nfls
   refine AN (A5 (A9 (A0 (ya rfl (AU (xs := Md.cells m a) rfl rfl (M.rdBlk 0 rfl rfl) underlying26 rfl BC) (cl 23 rfl (AE rfl rfl call6) (dT m a _ ho (hM.fr0 M.fr) (hY.fr0 M.fr)) ?_)))))
   rintro _ w5 ⟨A1, nA1, c1, B1, nB1, d1, fin1, rs1, G1, rfl, hsh, hcrw5, hnww5, hfw5⟩
   refine ⟨_, rfl, ?_⟩
   have M := M.push hfw5 (As.nt m A1 B1 rs1 G1) hcrw5 hnww5
   refine yb rfl (yb rfl (yb rfl (BI M (AA rfl) rfl rfl 32 rfl [.slice none 0 0, .slice none 0 0, .int .i64 0, .int .i64 0] MV rfl fun g3 w6 hg3 M => B8 (cs' := [.slice A1 nA1 c1, .slice B1 nB1 d1, .int .i64 0, .int .i64 fin1]) M 0 (AA rfl) rfl rfl rfl rfl rfl FQ rfl (AI rfl) (AY rfl) rfl fun w7 M => yb rfl (A4 (A5 (A9 (A9 (A0 (yb rfl (ya rfl (CX rfl rfl rfl) (A4 ?_)))))))))))
   refine A5 (AT (b := (!decide ((EA m).2.2 = (0 : Int)))) rfl (fun h27 => ?_) (fun h27 => ?_))
   ·have h27p := (odf (C4 h27))
    exact A9 (A0 (yb rfl (A4 (A5 (AF (AB (AK rfl rfl ⟨rfl, M.fr⟩)))))))
   ·have h27p := (odt (C5 h27))
    have h0 : (EA m).2.2 = 0 := odt (C5 h27)
    obtain ⟨rfl, rfl, rfl, hr1⟩ := hsh h0
    have hn := Y9 h0
    have hp2 := mE m
    refine AN (A5 (A9 (A0 (ya rfl (AU (xs := Md.cells m a) rfl rfl (M.rdBlk 2 rfl rfl) underlying26 rfl BC) (cl 29 rfl (AE rfl rfl call7) (kU m a _ ho (hM.fr0 M.fr)) ?_)))))
    rintro _ w8 ⟨a', rfl, M1⟩
    refine ⟨_, rfl, ?_⟩
    have M := M.stack M1
    refine BI M (AA rfl) rfl rfl 26 rfl [str [], str [], .slice none 0 0, .slice none 0 0, .slice none 0 0] K4 rfl fun g5 w9 hg5 M => B8 (cs' := (Md.cells m a')) M 0 (AA rfl) rfl rfl rfl rfl rfl BC rfl (AI rfl) (AY rfl) rfl fun w10 M => A4 (A5 (A9 (A0 (yb rfl (A4 (A5 (A9 (A9 (A0 (yb rfl (A4 ?_)))))))))))
    refine A5 (AV (CL (fun e wr mz => ∃ (i : Nat) (X : List El), e = [(3, pg g3), (5, pg g5), (6, .func (.func 8) #[] #[]), (7, .int .i64 ((i : Nat) : Int))] ∧ Mem w AD [As.blk g5 26 (Md.cells m a'), As.own w7.heap.size 97 5 (.slice a'.V m.vars.length a'.vc) m.vars.length (AS Bd.cells m.vars), As.own w7.heap.size 39 11 (.slice a'.E m.els.length a'.ec) m.els.length (AS El.cells X), As.own w7.heap.size 41 4 (.slice a'.F m.fls.length a'.fc) m.fls.length (AS Fl.cells m.fls), As.blk g3 32 [.slice A1 ((CU m).length) c1, .slice B1 ((EF m).length) d1, .int .i64 0, .int .i64 1], As.nt m A1 B1 rs1 G1, As.blk g1 26 (Md.cells m a)] wr ∧ (i ≤ m.els.length) ∧ (X.length = m.els.length) ∧ (X.drop i = m.els.drop i) ∧ (X.take i = (m.els.take i).map El.zz) ∧ (∀ z ∈ m.els.take i, z.id.length ≤ 31) ∧ mz = m.els.length - i) ⟨0, m.els, rfl, M, Nat.zero_le _, rfl, rfl, rfl, by simp, rfl⟩ ⟨rfl, rfl, rfl, rfl, trivial⟩ ?_))
    rintro _ w11 _ ⟨i, X, rfl, M, hi, hXl, hXd, hXt, hS1, rfl⟩
    refine A9 (A9 (A0 (yb rfl (yb rfl (yl rfl rfl (M.cell 0 rfl rfl) (ya rfl (CS rfl rfl (sl rfl)) (ya rfl (CB rfl rfl rfl) (A4 (A5 (AT (b := (decide (((i : Nat) : Int) < ((m.els.length : Nat) : Int)))) rfl (fun h34 => ?_) (fun h34 => ?_)))))))))))
    ·have h34p := (odt h34)
     refine AN (A5 (A9 (AV (A9 (A0 (yb rfl (yl rfl rfl (M.cell 0 rfl rfl) (yb rfl ?_))))))))
     obtain ⟨g40, hA40⟩ := OM (M.own 2 rfl) (by omega)
     refine ya rfl (BM i hA40 rfl rfl rfl (sl rfl) (by omega)) ?_
     obtain ⟨x, hx⟩ := DA (l := X) (i := i) (by omega)
     have hxo := hs.els x (List.mem_of_getElem? (ID hXd hx))
     refine ya rfl (AU (xs := El.cells x) rfl rfl (DD El.len (L4 (M.rdOwn 2 rfl) (by omega)) hA40 hx) underlying39 rfl AP) (BI M (AA rfl) rfl rfl 39 rfl [str [], str [], .int .u8 0, str [], str [], str [], .int .u8 0, str [], str [], .int .i64 0, .int .i64 0] B7 rfl fun g8 w12 hg8 M => B8 (cs' := (El.cells x)) M 0 (AA rfl) rfl rfl rfl rfl rfl AP rfl (AI rfl) (AY rfl) rfl fun w13 M => A4 (A5 (A9 (A9 (A0 (yb rfl (yl rfl rfl (M.cell 0 rfl rfl) (ya rfl (E3 rfl rfl underlying9) (ya rfl (FF rfl rfl rfl) (A4 (A5 ?_)))))))))))
     refine AT (b := (decide ((31 : Int) < ((x.id.length : Nat) : Int)))) rfl (fun h45 => ?_) (fun h45 => ?_)
     ·have h45p := (odt h45)
      exact A9 (A0 (yb rfl (A4 (A5 (AF (AB (AL (AB (AB (AL (AB (AK rfl rfl ⟨rfl, M.fr⟩))))))))))))
     ·have h45p := (odf h45)
      refine AN (A5 (A9 (DB 24 (fun _ => True) DV ?_)))
      have M := M.drew
      refine oa 0 24 rfl rfl trivial (fun _ _ => yp rfl) (oa 4 24 rfl rfl trivial (fun _ _ => yp rfl) (oa 8 24 rfl rfl trivial (fun _ _ => yp rfl) (oa 12 24 rfl rfl trivial (fun _ _ => yp rfl) (aC 17 (fun w' => Mem w AD [As.blk g8 39 (El.cells x), As.blk g5 26 (Md.cells m a'), As.own w7.heap.size 97 5 (.slice a'.V m.vars.length a'.vc) m.vars.length (AS Bd.cells m.vars), As.own w7.heap.size 39 11 (.slice a'.E m.els.length a'.ec) m.els.length (AS El.cells X), As.own w7.heap.size 41 4 (.slice a'.F m.fls.length a'.fc) m.fls.length (AS Fl.cells m.fls), As.blk g3 32 [.slice A1 ((CU m).length) c1, .slice B1 ((EF m).length) d1, .int .i64 0, .int .i64 1], As.nt m A1 B1 rs1 G1, As.blk g1 26 (Md.cells m a)] w') (KA 1 (by kernel_rfl) (fun c a t v w h => by cases t <;> exact h) (by kernel_rfl) (by kernel_rfl) (by kernel_rfl) rfl (AA rfl) rfl rfl M (fun _ M => yp rfl) (KA 2 (by kernel_rfl) (fun c a t v w h => by cases t <;> exact h) (by kernel_rfl) (by kernel_rfl) (by kernel_rfl) rfl (AA rfl) rfl rfl M (fun _ M => C0 rfl rfl (sc rfl) (M.cell 0 rfl rfl)) (KA 5 (by kernel_rfl) (fun c a t v w h => by cases t <;> exact h) (by kernel_rfl) (by kernel_rfl) (by kernel_rfl) rfl (AA rfl) rfl rfl M (fun _ M => yp rfl) (KA 6 (by kernel_rfl) (fun c a t v w h => by cases t <;> exact h) (by kernel_rfl) (by kernel_rfl) (by kernel_rfl) rfl (AA rfl) rfl rfl M (fun _ M => C0 rfl rfl (sc rfl) (M.cell 0 rfl rfl)) (KA 9 (by kernel_rfl) (fun c a t v w h => by cases t <;> exact h) (by kernel_rfl) (by kernel_rfl) (by kernel_rfl) rfl (AA rfl) rfl rfl M (fun _ M => yp rfl) (KA 10 (by kernel_rfl) (fun c a t v w h => by cases t <;> exact h) (by kernel_rfl) (by kernel_rfl) (by kernel_rfl) rfl (AA rfl) rfl rfl M (fun _ M => C0 rfl rfl (sc rfl) (M.cell 0 rfl rfl)) (KA 13 (by kernel_rfl) (fun c a t v w h => by cases t <;> exact h) (by kernel_rfl) (by kernel_rfl) (by kernel_rfl) rfl (AA rfl) rfl rfl M (fun _ M => yp rfl) (KA 14 (by kernel_rfl) (fun c a t v w h => by cases t <;> exact h) (by kernel_rfl) (by kernel_rfl) (by kernel_rfl) rfl (AA rfl) rfl rfl M (fun _ M => C0 rfl rfl (sc rfl) (M.cell 0 rfl rfl)) (BY 3 (some 49) (by kernel_rfl) rfl (AA rfl) rfl rfl (BK rfl rfl rfl call8) (HL x.id _ hxo.id) ?_)))))))))))))
      rintro _ w14 ⟨rfl, hfw14⟩
      refine ⟨_, rfl, fun _ => M.step hfw14, ?_⟩
      have M := M.step hfw14
      refine KA 16 (by kernel_rfl) (fun c a t v w h => by cases t <;> exact h) (by kernel_rfl) (by kernel_rfl) (by kernel_rfl) rfl (AA rfl) rfl rfl M (fun _ M => yp rfl) (BY 7 (some 53) (by kernel_rfl) rfl (AA rfl) rfl rfl (BK rfl rfl rfl call8) (HL x.inn _ hxo.inn) ?_)
      rintro _ w15 ⟨rfl, hfw15⟩
      refine ⟨_, rfl, fun _ => M.step hfw15, ?_⟩
      have M := M.step hfw15
      refine BY 11 (some 57) (by kernel_rfl) rfl (AA rfl) rfl rfl (BK rfl rfl rfl call8) (HL x.dflt _ hxo.dflt) ?_
      rintro _ w16 ⟨rfl, hfw16⟩
      refine ⟨_, rfl, fun _ => M.step hfw16, ?_⟩
      have M := M.step hfw16
      refine BY 15 (some 61) (by kernel_rfl) rfl (AA rfl) rfl rfl (BK rfl rfl rfl call8) (HL x.att _ hxo.att) ?_
      rintro _ w17 ⟨rfl, hfw17⟩
      refine ⟨_, rfl, fun _ => M.step hfw17, ?_⟩
      have M := M.step hfw17
      refine BG 17 none (by kernel_rfl) rfl (AA rfl) rfl rfl (fun ρ hρ => EG 9 _ _ rfl g8 0 39 _ (str (zz x.id)) (hρ _ _ rfl) (hρ _ _ rfl) rfl (M.blk 0 rfl) sz_string (AZ rfl) rfl) ?_
      rintro _ w18 ⟨rfl, hbw18, hfw18⟩
      replace M : Mem w AD (List.set _ 0 (As.blk g8 39 [str (zz x.id), str x.nm, .int .u8 (x.kind.toNat : Int), str x.inn, str x.dflt, str x.att, .int .u8 (x.ev.toNat : Int), str x.ref, str x.key, .int .i64 x.ticks, .int .i64 x.tries])) w18 := M.putB 0 rfl hbw18 hfw18
      refine ⟨fun h => absurd h (by decide), LR 18 (by kernel_rfl) rfl (AA rfl) rfl rfl (yp rfl) (fun h => absurd h (by decide)) (BG 19 none (by kernel_rfl) rfl (AA rfl) rfl rfl (fun ρ hρ => EG 9 _ _ rfl g8 3 39 _ (str (zz x.inn)) (hρ _ _ rfl) (hρ _ _ rfl) rfl (M.blk 0 rfl) sz_string (AZ rfl) rfl) ?_)⟩
      rintro _ w19 ⟨rfl, hbw19, hfw19⟩
      replace M : Mem w AD (List.set _ 0 (As.blk g8 39 [str (zz x.id), str x.nm, .int .u8 (x.kind.toNat : Int), str (zz x.inn), str x.dflt, str x.att, .int .u8 (x.ev.toNat : Int), str x.ref, str x.key, .int .i64 x.ticks, .int .i64 x.tries])) w19 := M.putB 0 rfl hbw19 hfw19
      refine ⟨fun h => absurd h (by decide), LR 20 (by kernel_rfl) rfl (AA rfl) rfl rfl (yp rfl) (fun h => absurd h (by decide)) (BG 21 none (by kernel_rfl) rfl (AA rfl) rfl rfl (fun ρ hρ => EG 9 _ _ rfl g8 4 39 _ (str (zz x.dflt)) (hρ _ _ rfl) (hρ _ _ rfl) rfl (M.blk 0 rfl) sz_string (AZ rfl) rfl) ?_)⟩
      rintro _ w20 ⟨rfl, hbw20, hfw20⟩
      replace M : Mem w AD (List.set _ 0 (As.blk g8 39 [str (zz x.id), str x.nm, .int .u8 (x.kind.toNat : Int), str (zz x.inn), str (zz x.dflt), str x.att, .int .u8 (x.ev.toNat : Int), str x.ref, str x.key, .int .i64 x.ticks, .int .i64 x.tries])) w20 := M.putB 0 rfl hbw20 hfw20
      refine ⟨fun h => absurd h (by decide), LR 22 (by kernel_rfl) rfl (AA rfl) rfl rfl (yp rfl) (fun h => absurd h (by decide)) (BG 23 none (by kernel_rfl) rfl (AA rfl) rfl rfl (fun ρ hρ => EG 9 _ _ rfl g8 5 39 _ (str (zz x.att)) (hρ _ _ rfl) (hρ _ _ rfl) rfl (M.blk 0 rfl) sz_string (AZ rfl) rfl) ?_)⟩
      rintro _ w21 ⟨rfl, hbw21, hfw21⟩
      replace M : Mem w AD (List.set _ 0 (As.blk g8 39 [str (zz x.id), str x.nm, .int .u8 (x.kind.toNat : Int), str (zz x.inn), str (zz x.dflt), str (zz x.att), .int .u8 (x.ev.toNat : Int), str x.ref, str x.key, .int .i64 x.ticks, .int .i64 x.tries])) w21 := M.putB 0 rfl hbw21 hfw21
      refine ⟨fun h => absurd h (by decide), BN (by kernel_rfl) (A5 (A0 (yb rfl (yl rfl rfl (M.cell 1 rfl rfl) (yb rfl (ya rfl (AU (xs := [str (zz x.id), str x.nm, .int .u8 (x.kind.toNat : Int), str (zz x.inn), str (zz x.dflt), str (zz x.att), .int .u8 (x.ev.toNat : Int), str x.ref, str x.key, .int .i64 x.ticks, .int .i64 x.tries]) rfl rfl (M.rdBlk 0 rfl rfl) underlying39 rfl AP) ?_))))))⟩
      obtain ⟨g70, hA70⟩ := OM (M.own 3 rfl) (by omega)
      refine ya rfl (BM i hA70 rfl rfl rfl (sl rfl) (by omega)) (aD (xs' := AS El.cells (X.set i x.zz)) M 3 (AA rfl) rfl hA70 rfl rfl rfl rfl AP rfl (AY rfl) (by omega) (by rw [Nat.zero_add]; exact YW El.len x.zz hx) fun w22 M => A4 (AC (A5 (A0 (yb rfl (ya rfl (CI rfl rfl rfl (by omega)) (yb rfl (A4 (BF [(3, pg g3), (5, pg g5), (6, .func (.func 8) #[] #[]), (7, .int .i64 (((i + 1) : Nat) : Int))] (m.els.length - (i + 1)) ⟨i + 1, (X.set i x.zz), rfl, (M.pk [1, 2, 3, 4, 5, 6, 7]), ?_, ?_, ?_, ?_, ?_, rfl⟩ (by first | omega | (simp <;> omega)) ⟨rfl, rfl, rfl, rfl, trivial⟩)))))))))
      ·omega
      ·rw [List.length_set]; exact hXl
      ·exact U6 hXd
      ·exact U5 hXt hx (ID hXd hx)
      ·exact RL hS1 (ID hXd hx) (by omega)
    ·have h34p := (odf h34)
     refine C2 (AG (AG ?_))
     obtain rfl : i = m.els.length := by omega
     have hXE : X = m.els.map El.zz := by rw [List.take_length] at hXt; rw [← hXt, List.take_of_length_le (by omega)]
     subst hXE
     rw [List.take_length] at hS1
     refine B5 (A5 (A9 (A9 (A0 (yb rfl (A4 (A5 (AV (CL (fun e wr mz => ∃ (j : Nat) (Y : List Fl), e = [(3, pg g3), (5, pg g5), (6, .func (.func 8) #[] #[]), (9, .int .i64 ((j : Nat) : Int))] ∧ Mem w AD [As.blk g5 26 (Md.cells m a'), As.own w7.heap.size 97 5 (.slice a'.V m.vars.length a'.vc) m.vars.length (AS Bd.cells m.vars), As.own w7.heap.size 39 11 (.slice a'.E m.els.length a'.ec) m.els.length (AS El.cells (m.els.map El.zz)), As.own w7.heap.size 41 4 (.slice a'.F m.fls.length a'.fc) m.fls.length (AS Fl.cells Y), As.blk g3 32 [.slice A1 ((CU m).length) c1, .slice B1 ((EF m).length) d1, .int .i64 0, .int .i64 1], As.nt m A1 B1 rs1 G1, As.blk g1 26 (Md.cells m a)] wr ∧ (j ≤ m.fls.length) ∧ (Y.length = m.fls.length) ∧ (Y.drop j = m.fls.drop j) ∧ (Y.take j = (m.fls.take j).map Fl.zz) ∧ (∀ z ∈ m.fls.take j, z.id.length ≤ 31) ∧ mz = m.fls.length - j) ⟨0, m.fls, rfl, M, Nat.zero_le _, rfl, rfl, rfl, by simp, rfl⟩ ⟨rfl, rfl, rfl, rfl, trivial⟩ ?_)))))))))
     rintro _ w23 _ ⟨j, Y, rfl, M, hj, hYl, hYd, hYt, hS2, rfl⟩
     refine A9 (A9 (A0 (yb rfl (yb rfl (yl rfl rfl (M.cell 0 rfl rfl) (ya rfl (CS rfl rfl (sl rfl)) (ya rfl (CB rfl rfl rfl) (A4 (A5 (AT (b := (decide (((j : Nat) : Int) < ((m.fls.length : Nat) : Int)))) rfl (fun h75 => ?_) (fun h75 => ?_)))))))))))
     ·have h75p := (odt h75)
      refine AN (A5 (A9 (AV (A9 (A0 (yb rfl (yl rfl rfl (M.cell 0 rfl rfl) (yb rfl ?_))))))))
      obtain ⟨g81, hA81⟩ := OM (M.own 3 rfl) (by omega)
      refine ya rfl (BM j hA81 rfl rfl rfl (sl rfl) (by omega)) ?_
      obtain ⟨y, hy⟩ := DA (l := Y) (i := j) (by omega)
      have hyo := hs.fls y (List.mem_of_getElem? (ID hYd hy))
      refine ya rfl (AU (xs := Fl.cells y) rfl rfl (DD Fl.len (L4 (M.rdOwn 3 rfl) (by omega)) hA81 hy) underlying41 rfl C8) (BI M (AA rfl) rfl rfl 41 rfl [str [], str [], str [], str []] FW rfl fun g10 w24 hg10 M => B8 (cs' := (Fl.cells y)) M 0 (AA rfl) rfl rfl rfl rfl rfl C8 rfl (AI rfl) (AY rfl) rfl fun w25 M => A4 (A5 (A9 (A9 (A0 (yb rfl (yl rfl rfl (M.cell 0 rfl rfl) (ya rfl (E3 rfl rfl underlying9) (ya rfl (FF rfl rfl rfl) (A4 (A5 ?_)))))))))))
      refine AT (b := (decide ((31 : Int) < ((y.id.length : Nat) : Int)))) rfl (fun h86 => ?_) (fun h86 => ?_)
      ·have h86p := (odt h86)
       exact A9 (A0 (yb rfl (A4 (A5 (AF (AB (AL (AB (AB (AL (AB (AK rfl rfl ⟨rfl, M.fr⟩))))))))))))
      ·have h86p := (odf h86)
       refine AN (A5 (DB 20 (fun w' => Mem w AD [As.blk g10 41 (Fl.cells y), As.blk g5 26 (Md.cells m a'), As.own w7.heap.size 97 5 (.slice a'.V m.vars.length a'.vc) m.vars.length (AS Bd.cells m.vars), As.own w7.heap.size 39 11 (.slice a'.E m.els.length a'.ec) m.els.length (AS El.cells (m.els.map El.zz)), As.blk g3 32 [.slice A1 ((CU m).length) c1, .slice B1 ((EF m).length) d1, .int .i64 0, .int .i64 1], As.nt m A1 B1 rs1 G1, As.blk g1 26 (Md.cells m a)] w') DV ?_))
       have M := M.drew
       refine oc 0 20 rfl rfl (M.pk [0, 1, 2, 3, 5, 6, 7]) (ol 1 20 rfl rfl rfl (M.pk [0, 1, 2, 3, 5, 6, 7]) (fun _ M => (M.cell 1 rfl rfl)) (oc 2 20 rfl rfl (M.pk [0, 1, 2, 3, 5, 6, 7]) (oc 3 20 rfl rfl (M.pk [0, 1, 2, 3, 5, 6, 7]) (oc 4 20 rfl rfl (M.pk [0, 1, 2, 3, 5, 6, 7]) (ol 5 20 rfl rfl rfl (M.pk [0, 1, 2, 3, 5, 6, 7]) (fun _ M => (M.cell 0 rfl rfl)) (oc 7 20 rfl rfl (M.pk [0, 1, 2, 3, 5, 6, 7]) (oc 8 20 rfl rfl (M.pk [0, 1, 2, 3, 5, 6, 7]) (ol 9 20 rfl rfl rfl (M.pk [0, 1, 2, 3, 5, 6, 7]) (fun _ M => (M.cell 0 rfl rfl)) (oc 11 20 rfl rfl (M.pk [0, 1, 2, 3, 5, 6, 7]) (oc 12 20 rfl rfl (M.pk [0, 1, 2, 3, 5, 6, 7]) (ol 13 20 rfl rfl rfl (M.pk [0, 1, 2, 3, 5, 6, 7]) (fun _ M => (M.cell 0 rfl rfl)) (oc 15 20 rfl rfl (M.pk [0, 1, 2, 3, 5, 6, 7]) (ol 16 20 rfl rfl rfl (M.pk [0, 1, 2, 3, 5, 6, 7]) (fun _ M => (M.cell 0 rfl rfl)) (BY 6 (some 93) (by kernel_rfl) rfl (AA rfl) rfl rfl (BK rfl rfl rfl call8) (HL y.id _ hyo.id) ?_))))))))))))))
       rintro _ w26 ⟨rfl, hfw26⟩
       refine ⟨_, rfl, fun _ => (M.pk [0, 1, 2, 3, 5, 6, 7]).step hfw26, ?_⟩
       have M := M.step hfw26
       refine BY 10 (some 97) (by kernel_rfl) rfl (AA rfl) rfl rfl (BK rfl rfl rfl call8) (HL y.frm _ hyo.frm) ?_
       rintro _ w27 ⟨rfl, hfw27⟩
       refine ⟨_, rfl, fun _ => (M.pk [0, 1, 2, 3, 5, 6, 7]).step hfw27, ?_⟩
       have M := M.step hfw27
       refine BY 14 (some 101) (by kernel_rfl) rfl (AA rfl) rfl rfl (BK rfl rfl rfl call8) (HL y.tg _ hyo.tg) ?_
       rintro _ w28 ⟨rfl, hfw28⟩
       refine ⟨_, rfl, fun _ => (M.pk [0, 1, 2, 3, 5, 6, 7]).step hfw28, ?_⟩
       have M := M.step hfw28
       refine oa 17 20 rfl rfl (M.pk [0, 1, 2, 3, 5, 6, 7]) (fun _ M => BU (parts := [(0, _), (1, _), (2, _), (3, _)]) rfl rfl (MC _ _ _ _)) (oa 18 20 rfl rfl (M.pk [0, 1, 2, 3, 5, 6, 7]) (fun _ M => BM j hA81 rfl rfl rfl (sl rfl) (by omega)) (BG 19 none (by kernel_rfl) rfl (AA rfl) rfl rfl (fun ρ hρ => Q4 hA81 rfl (hρ _ _ rfl) (hρ _ _ rfl) (M.own 4 rfl) C8 rfl (AY rfl) (by omega)) ?_))
       rintro _ w29 ⟨rfl, how29, hfw29⟩
       rw [Nat.zero_add, show put (AS Fl.cells Y) (j * 4) [str (zz y.id), str (zz y.frm), str (zz y.tg), str y.cond] = AS Fl.cells (Y.set j y.zz) from YW Fl.len y.zz hy] at how29
       have M := M.upd 4 rfl hfw29 (As.own w7.heap.size 41 4 (.slice a'.F m.fls.length a'.fc) m.fls.length (AS Fl.cells (Y.set j y.zz))) how29 (fun _ h => .inl h)
       refine ⟨fun _ => (M.pk [0, 1, 2, 3, 5, 6, 7]), BN (by kernel_rfl) (AC (A5 (A0 (yb rfl (ya rfl (CI rfl rfl rfl (by omega)) (yb rfl (A4 (BF [(3, pg g3), (5, pg g5), (6, .func (.func 8) #[] #[]), (9, .int .i64 (((j + 1) : Nat) : Int))] (m.fls.length - (j + 1)) ⟨j + 1, (Y.set j y.zz), rfl, (M.pk [1, 2, 3, 4, 5, 6, 7]), ?_, ?_, ?_, ?_, ?_, rfl⟩ (by first | omega | (simp <;> omega)) ⟨rfl, rfl, rfl, rfl, trivial⟩))))))))⟩
       ·omega
       ·rw [List.length_set]; exact hYl
       ·exact U6 hYd
       ·exact U5 hYt hy (ID hYd hy)
       ·exact RL hS2 (ID hYd hy) (by omega)
     ·have h75p := (odf h75)
      refine C2 (AG (AG ?_))
      obtain rfl : j = m.fls.length := by omega
      have hYE : Y = m.fls.map Fl.zz := by rw [List.take_length] at hYt; rw [← hYt, List.take_of_length_le (by omega)]
      subst hYE
      rw [List.take_length] at hS2
      refine B5 (A5 (A9 (A9 (A0 (yb rfl (yl rfl rfl (M.cell 0 rfl rfl) (ya rfl (E3 rfl rfl underlying9) (ya rfl (FF rfl rfl rfl) (A4 (A5 (AT (b := (decide ((31 : Int) < ((m.id.length : Nat) : Int)))) rfl (fun h109 => ?_) (fun h109 => ?_))))))))))))
      ·have h109p := (odt h109)
       exact A9 (A0 (yb rfl (A4 (A5 (AF (AB (AK rfl rfl ⟨rfl, M.fr⟩)))))))
      ·have h109p := (odf h109)
       refine AN (A5 (A9 (A0 (yb rfl (yb rfl (yl rfl rfl (M.cell 0 rfl rfl) (cp M 113 rfl (BK rfl rfl rfl call8) (HL m.id _ hs.id) fun w30 M => yb rfl (BP (cs' := [str (zz m.id), str m.nm, .slice a'.V m.vars.length a'.vc, .slice a'.E m.els.length a'.ec, .slice a'.F m.fls.length a'.fc]) M 0 (AA rfl) rfl rfl rfl rfl rfl rfl rfl sz_string (AZ rfl) rfl fun w31 M => A4 (A5 (A9 (A0 (ya rfl (AU (xs := [str (zz m.id), str m.nm, .slice a'.V m.vars.length a'.vc, .slice a'.E m.els.length a'.ec, .slice a'.F m.fls.length a'.fc]) rfl rfl (M.rdBlk 0 rfl rfl) underlying26 rfl BC) ?_))))))))))))
       have h0z : (EA m.zz).2.2 = 0 := r9 ⟨by omega, hS1, hS2⟩ h0
       have hpz := dN m
       have hpb := rI ho
       have htb := qK ho
       have htz : (EF m.zz).length = (EF m).length := XM hn.ids
       refine cl 117 rfl (AE rfl rfl call6) (vV m a' _ (hz.ok (by rw [iY]; exact hl)) h0 h0z (M.rdOwn 1 rfl) (M.rdOwn 2 rfl) (M.rdOwn 3 rfl) (hY.fr0 M.fr)) ?_
       rintro _ w32 ⟨A2, c2, B2, d2, rs2, G2, rfl, hr2, hcrw32, hnww32, hfw32⟩
       refine ⟨_, rfl, ?_⟩
       have M := M.push hfw32 (As.nt m.zz A2 B2 rs2 G2) hcrw32 hnww32
       refine yb rfl (yb rfl (yb rfl (BI M (AA rfl) rfl rfl 32 rfl [.slice none 0 0, .slice none 0 0, .int .i64 0, .int .i64 0] MV rfl fun g11 w33 hg11 M => B8 (cs' := [.slice A2 ((CU m).length) c2, .slice B2 ((EF m).length) d2, .int .i64 0, .int .i64 1]) M 0 (AA rfl) rfl rfl rfl rfl rfl FQ rfl (AI rfl) (AY rfl) rfl fun w34 M => yb rfl (A4 (A5 (A9 (A9 (A0 (yb rfl (ya rfl (R6 rfl rfl rfl) (yb rfl ?_)))))))))))
       refine yd rfl (yp rfl) (ym rfl rfl (M.cell 6 rfl rfl) (yd rfl (CS rfl rfl (sl rfl)) (yd rfl (yp rfl) (ym rfl rfl (M.cell 0 rfl rfl) (yd rfl (CS rfl rfl (sl rfl)) (yd rfl (R6 rfl rfl rfl) (yb rfl (yb rfl (yd rfl (yp rfl) (ym rfl rfl (M.cell 6 rfl rfl) (yd rfl (CS rfl rfl (sl rfl)) (yd rfl (yp rfl) (ym rfl rfl (M.cell 0 rfl rfl) (yd rfl (CS rfl rfl (sl rfl)) (yd rfl (R6 rfl rfl rfl) ?_)))))))))))))))
       refine yb rfl (yb rfl (yd rfl (yp rfl) (ym rfl rfl (M.cell 6 rfl rfl) (yd rfl (yp rfl) (ym rfl rfl (M.cell 0 rfl rfl) (yd rfl (R6 rfl rfl rfl) (yb rfl (yb rfl (yd rfl (yp rfl) (ym rfl rfl (M.cell 6 rfl rfl) (yd rfl (yp rfl) (ym rfl rfl (M.cell 0 rfl rfl) (yd rfl (R6 rfl rfl rfl) (yb rfl (A4 ?_)))))))))))))))
       refine A5 (CW rfl (AN (A5 (A9 (A9 (A0 (yb rfl (A4 (A5 (AV (CL (fun e wr mz => ∃ (k : Nat), e = [(3, pg g3), (11, pg g11), (12, .int .i64 ((k : Nat) : Int))] ∧ Mem w AD [As.blk g11 32 [.slice A2 ((CU m).length) c2, .slice B2 ((EF m).length) d2, .int .i64 0, .int .i64 1], As.nt m.zz A2 B2 rs2 G2, As.blk g5 26 [str (zz m.id), str m.nm, .slice a'.V m.vars.length a'.vc, .slice a'.E m.els.length a'.ec, .slice a'.F m.fls.length a'.fc], As.own w7.heap.size 97 5 (.slice a'.V m.vars.length a'.vc) m.vars.length (AS Bd.cells m.vars), As.own w7.heap.size 39 11 (.slice a'.E m.els.length a'.ec) m.els.length (AS El.cells (m.els.map El.zz)), As.own w7.heap.size 41 4 (.slice a'.F m.fls.length a'.fc) m.fls.length (AS Fl.cells (m.fls.map Fl.zz)), As.blk g3 32 [.slice A1 ((CU m).length) c1, .slice B1 ((EF m).length) d1, .int .i64 0, .int .i64 1], As.nt m A1 B1 rs1 G1, As.blk g1 26 (Md.cells m a)] wr ∧ (2 ≤ k) ∧ (k ≤ (CU m).length) ∧ mz = (CU m).length - k) ⟨2, rfl, M, Nat.le_refl _, hp2, rfl⟩ ⟨rfl, rfl, rfl, trivial⟩ ?_)))))))))))
       rintro _ w35 _ ⟨k, rfl, M, hk2, hk, rfl⟩
       refine A9 (A9 (A0 (yb rfl (yb rfl (yl rfl rfl (M.cell 6 rfl rfl) (ya rfl (CS rfl rfl (sl rfl)) (ya rfl (CB rfl rfl rfl) (A4 (A5 (AT (b := (decide (((k : Nat) : Int) < (((CU m).length : Nat) : Int)))) rfl (fun h158 => ?_) (fun h158 => ?_)))))))))))
       ·have h158p := (odt h158)
        refine AN (A5 (A9 (AV (A9 (JN DV (by kernel_rfl) ?_)))))
        have M := M.drew
        refine sb rfl (sd rfl rfl (M.cell 0 rfl rfl) (sb rfl ?_))
        obtain ⟨x1, hx1⟩ := DA (l := (CU m.zz)) (i := k) (by omega)
        obtain ⟨b_x1, o_x1, hA_x1⟩ := C7 (k := 1) (by omega) ((M.nt 1 rfl h0z).pl) hx1
        refine sa rfl (BM k hA_x1 rfl rfl rfl (sl rfl) (by omega)) (sd rfl rfl (EB GD ((M.nt 1 rfl h0z).pl) hA_x1 hx1 0 rfl) (sb rfl (sd rfl rfl (M.cell 6 rfl rfl) (sb rfl ?_))))
        obtain ⟨y1, hy1⟩ := DA (l := (CU m)) (i := k) (by omega)
        obtain ⟨b_y1, o_y1, hA_y1⟩ := C7 (k := 1) (by omega) ((M.nt 7 rfl h0).pl) hy1
        have hyl := hZ h0 hk2 hy1
        refine sa rfl (BM k hA_y1 rfl rfl rfl (sl rfl) (by omega)) (sd rfl rfl (EB GD ((M.nt 7 rfl h0).pl) hA_y1 hy1 0 rfl) (sa rfl (FE rfl rfl rfl (by first | omega | (simp only [List.length_cons, List.length_nil]; omega) | (simp only [List.length_append, List.length_cons, List.length_nil]; omega))) (sa rfl (GR rfl rfl rfl) (LQ (A5 (AT (b := (!decide (x1 = ([90] ++ y1)))) rfl (fun h172 => ?_) (fun h172 => ?_)))))))
        ·have h172p := (odf (C4 h172))
         refine A9 (A0 (yb rfl (A4 (A5 (AF (AL (AB (AB (AL (AB (AK rfl rfl ?_)))))))))))
         exfalso
         exact vK h172p (vL h0 hk2 hx1 hy1)
        ·have h172p := (odt (C5 h172))
         refine AN (AC (A5 (A0 (yb rfl (ya rfl (CI rfl rfl rfl (by omega)) (yb rfl (A4 (BF [(3, pg g3), (11, pg g11), (12, .int .i64 (((k + 1) : Nat) : Int))] ((CU m).length - (k + 1)) ⟨k + 1, rfl, M, ?_, ?_, rfl⟩ (by first | omega | (simp <;> omega)) ⟨rfl, rfl, rfl, trivial⟩))))))))
         ·omega
         ·omega
       ·have h158p := (odf h158)
        refine C2 (AG (AG (B5 (A5 (A9 (A9 (A0 (yb rfl (A4 (A5 (AV (CL (fun e wr mz => ∃ (q : Nat), e = [(3, pg g3), (11, pg g11), (13, .int .i64 ((q : Nat) : Int))] ∧ Mem w AD [As.blk g11 32 [.slice A2 ((CU m).length) c2, .slice B2 ((EF m).length) d2, .int .i64 0, .int .i64 1], As.nt m.zz A2 B2 rs2 G2, As.blk g5 26 [str (zz m.id), str m.nm, .slice a'.V m.vars.length a'.vc, .slice a'.E m.els.length a'.ec, .slice a'.F m.fls.length a'.fc], As.own w7.heap.size 97 5 (.slice a'.V m.vars.length a'.vc) m.vars.length (AS Bd.cells m.vars), As.own w7.heap.size 39 11 (.slice a'.E m.els.length a'.ec) m.els.length (AS El.cells (m.els.map El.zz)), As.own w7.heap.size 41 4 (.slice a'.F m.fls.length a'.fc) m.fls.length (AS Fl.cells (m.fls.map Fl.zz)), As.blk g3 32 [.slice A1 ((CU m).length) c1, .slice B1 ((EF m).length) d1, .int .i64 0, .int .i64 1], As.nt m A1 B1 rs1 G1, As.blk g1 26 (Md.cells m a)] wr ∧ (q ≤ (EF m).length) ∧ mz = (EF m).length - q) ⟨0, rfl, M, Nat.zero_le _, rfl⟩ ⟨rfl, rfl, rfl, trivial⟩ ?_))))))))))))
        rintro _ w36 _ ⟨q, rfl, M, hq, rfl⟩
        refine A9 (A9 (A0 (yb rfl (yb rfl (yl rfl rfl (M.cell 6 rfl rfl) (ya rfl (CS rfl rfl (sl rfl)) (ya rfl (CB rfl rfl rfl) (A4 (A5 (AT (b := (decide (((q : Nat) : Int) < (((EF m).length : Nat) : Int)))) rfl (fun h177 => ?_) (fun h177 => ?_)))))))))))
        ·have h177p := (odt h177)
         refine AN (A5 (A9 (AV (A9 ?_))))
         obtain ⟨r1, hr1_⟩ := DA (l := rs1) (i := q) (by omega)
         obtain ⟨t1, ht1⟩ := DA (l := EF m) (i := q) (by omega)
         obtain ⟨b_r1, o_r1, hA_r1⟩ := C7 (k := 3) (by omega) (L4 (M.nt 7 rfl h0).tr (by omega)) hr1_
         obtain ⟨r2, hr2_⟩ := DA (l := rs2) (i := q) (by omega)
         obtain ⟨t2, ht2⟩ := DA (l := EF m.zz) (i := q) (by omega)
         obtain ⟨b_r2, o_r2, hA_r2⟩ := C7 (k := 3) (by omega) (L4 (M.nt 1 rfl h0z).tr (by omega)) hr2_
         have hio := xU (kW hn.ids) ht1 ht2
         have htl := qJ ho ht1
         refine DB 30 (fun w' => Mem w AD [As.blk g11 32 [.slice A2 ((CU m).length) c2, .slice B2 ((EF m).length) d2, .int .i64 0, .int .i64 1], As.nt m.zz A2 B2 rs2 G2, As.blk g5 26 [str (zz m.id), str m.nm, .slice a'.V m.vars.length a'.vc, .slice a'.E m.els.length a'.ec, .slice a'.F m.fls.length a'.fc], As.own w7.heap.size 97 5 (.slice a'.V m.vars.length a'.vc) m.vars.length (AS Bd.cells m.vars), As.own w7.heap.size 39 11 (.slice a'.E m.els.length a'.ec) m.els.length (AS El.cells (m.els.map El.zz)), As.own w7.heap.size 41 4 (.slice a'.F m.fls.length a'.fc) m.fls.length (AS Fl.cells (m.fls.map Fl.zz)), As.blk g3 32 [.slice A1 ((CU m).length) c1, .slice B1 ((EF m).length) d1, .int .i64 0, .int .i64 1], As.nt m A1 B1 rs1 G1, As.blk g1 26 (Md.cells m a)] w') DV ?_
         have M := M.drew
         refine oc 0 30 rfl rfl M (ol 1 30 rfl rfl rfl M (fun _ M => (M.cell 6 rfl rfl)) (oc 2 30 rfl rfl M (oa 3 30 rfl rfl M (fun _ M => BM q hA_r1 rfl rfl rfl (sl rfl) (by omega)) (oc 4 30 rfl rfl M (ol 5 30 rfl rfl rfl M (fun _ M => (EB TrR.len (L4 (M.nt 7 rfl h0).tr (by omega)) hA_r1 hr1_ 1 rfl)) (oc 6 30 rfl rfl M (ol 7 30 rfl rfl rfl M (fun _ M => (M.cell 0 rfl rfl)) (oc 8 30 rfl rfl M (oa 9 30 rfl rfl M (fun _ M => BM q hA_r2 rfl rfl rfl (sl rfl) (by omega)) (oc 10 30 rfl rfl M (ol 11 30 rfl rfl rfl M (fun _ M => (EB TrR.len (L4 (M.nt 1 rfl h0z).tr (by omega)) hA_r2 hr2_ 1 rfl)) (BY 12 (some 192) (by kernel_rfl) rfl (AA rfl) rfl rfl (AE rfl rfl call9) (dE t1.ins t2.ins r1.A r2.A r1.n r2.n r1.c r2.c _ hio.1 ((M.nt 7 rfl h0).ok.2 q t1 r1 ht1 hr1_).n ((M.nt 1 rfl h0z).ok.2 q t2 r2 ht2 hr2_).n htl.1 ((M.nt 7 rfl h0).ok.2 q t1 r1 ht1 hr1_).ins ((M.nt 1 rfl h0z).ok.2 q t2 r2 ht2 hr2_).ins) ?_))))))))))))
         rintro _ w37 ⟨rfl, hfw37⟩
         refine ⟨_, rfl, fun _ => M.step hfw37, ?_⟩
         have M := M.step hfw37
         refine oc 13 30 rfl rfl M (oc 14 30 rfl rfl M (ob 15 30 rfl (AW rfl rfl rfl) rfl rfl M (fun _ M => yp rfl) (ob 16 30 rfl (AW rfl rfl rfl) rfl rfl M (fun _ M => C0 rfl rfl (sc rfl) (M.cell 6 rfl rfl)) (ob 17 30 rfl (AW rfl rfl rfl) rfl rfl M (fun _ M => yp rfl) (ob 18 30 rfl (AW rfl rfl rfl) rfl rfl M (fun _ M => BM q hA_r1 rfl rfl rfl (sl rfl) (by omega)) (ob 19 30 rfl (AW rfl rfl rfl) rfl rfl M (fun _ M => yp rfl) (ob 20 30 rfl (AW rfl rfl rfl) rfl rfl M (fun _ M => C0 rfl rfl (sc rfl) (EB TrR.len (L4 (M.nt 7 rfl h0).tr (by omega)) hA_r1 hr1_ 2 rfl)) (ob 21 30 rfl (AW rfl rfl rfl) rfl rfl M (fun _ M => yp rfl) (ob 22 30 rfl (AW rfl rfl rfl) rfl rfl M (fun _ M => C0 rfl rfl (sc rfl) (M.cell 0 rfl rfl)) (ob 23 30 rfl (AW rfl rfl rfl) rfl rfl M (fun _ M => yp rfl) (ob 24 30 rfl (AW rfl rfl rfl) rfl rfl M (fun _ M => BM q hA_r2 rfl rfl rfl (sl rfl) (by omega)) (ob 25 30 rfl (AW rfl rfl rfl) rfl rfl M (fun _ M => yp rfl) (ob 26 30 rfl (AW rfl rfl rfl) rfl rfl M (fun _ M => C0 rfl rfl (sc rfl) (EB TrR.len (L4 (M.nt 1 rfl h0z).tr (by omega)) hA_r2 hr2_ 2 rfl)) (BY 27 (some 207) (by kernel_rfl) rfl (AW rfl rfl rfl) rfl rfl (AE rfl rfl call9) (dE t1.outs t2.outs r1.B r2.B r1.m r2.m r1.d r2.d _ hio.2 ((M.nt 7 rfl h0).ok.2 q t1 r1 ht1 hr1_).m ((M.nt 1 rfl h0z).ok.2 q t2 r2 ht2 hr2_).m htl.2 ((M.nt 7 rfl h0).ok.2 q t1 r1 ht1 hr1_).outs ((M.nt 1 rfl h0z).ok.2 q t2 r2 ht2 hr2_).outs) ?_))))))))))))))
         rintro _ w38 ⟨rfl, hfw38⟩
         refine ⟨_, rfl, fun _ => M.step hfw38, ?_⟩
         have M := M.step hfw38
         refine ob 28 30 rfl (AW rfl rfl rfl) rfl rfl M (fun _ M => yp rfl) (oc 29 30 rfl rfl M (BN (by kernel_rfl) (A5 (CW rfl (AN (AC (A5 (A0 (yb rfl (ya rfl (CI rfl rfl rfl (by omega)) (yb rfl (A4 (BF [(3, pg g3), (11, pg g11), (13, .int .i64 (((q + 1) : Nat) : Int))] ((EF m).length - (q + 1)) ⟨q + 1, rfl, M, ?_, rfl⟩ (by first | omega | (simp <;> omega)) ⟨rfl, rfl, rfl, trivial⟩)))))))))))))
         ·omega
        ·have h177p := (odf h177)
         exact C2 (AG (AG (B5 (A5 (A9 (A0 (yb rfl (A4 (A5 (AF (AK rfl rfl ⟨rfl, M.fr⟩)))))))))))
 refine AM (d := 16) (b := (KH m)) rfl (fun h16 => ?_) (fun h16 => ?_)
 ·exact yo rfl (yo rfl (yb rfl (k16 _ _ M ⟨rfl, (by rw [h16]; rfl), trivial⟩)))
 ·refine CF (some 17) (AW rfl rfl rfl) rfl rfl (AE rfl rfl call5) (QB _) ?_
  rintro _ w39 ⟨rfl, hfw39⟩
  refine ⟨_, rfl, ?_⟩
  have M := M.step hfw39
  exact yd rfl (yp rfl) (yb rfl (k16 _ _ M ⟨rfl, (by rw [h16]; rfl), trivial⟩))
end Go.Proofs.YtdaihdknnlphkaaGreatDoor
