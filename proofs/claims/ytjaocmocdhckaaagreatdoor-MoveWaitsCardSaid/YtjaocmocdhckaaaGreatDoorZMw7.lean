/- Lemmas that the last text rests on. Condition: each says its own. -/
import Derived.Test.YtjaocmocdhckaaaGreatDoorZMw6
set_option maxHeartbeats 16000000
set_option maxRecDepth 100000
namespace Go.Proofs.YtjaocmocdhckaaaGreatDoor
open Go.RowKit
open Tryz
structure In where
 id : Int
 mdl : List UInt8
 st : UInt8
 vars : List Bd
 toks : List Tk
def In.cells (i : In) (V T : Option Addr) (vc tc : Nat) : List Value := [.int .i64 i.id, str i.mdl, .int .u8 (i.st.toNat : Int), .slice V i.vars.length vc, .slice T i.toks.length tc]
def JO : Nat → List Tk → List Ar
 | _, [] => []
 | n, t :: r => if t.loc = [] then ⟨t.on, ((n + 1 : Nat) : Int), t.id, [], (!decide ((t.inc.toNat : Int) = (0 : Int)))⟩ :: JO (n + 1) r else JO n r
theorem MD (t : Tk) : ∀ (l : List Tk) (n : Nat), JO n (l ++ [t]) = JO n l ++ (if t.loc = [] then [⟨t.on, ((n + (JO n l).length + 1 : Nat) : Int), t.id, [], (!decide ((t.inc.toNat : Int) = (0 : Int)))⟩] else [])
 | [], n => by
  show (if t.loc = [] then _ else _) = _
  split <;> rfl
 | u :: r, n => by
  rw [List.cons_append, JO, JO]
  by_cases hu : u.loc = []
  ·rw [if_pos hu, if_pos hu, MD t r (n + 1), List.cons_append, List.length_cons, show n + 1 + (JO (n + 1) r).length + 1 = n + ((JO (n + 1) r).length + 1) + 1 by omega]
  ·rw [if_neg hu, if_neg hu, MD t r n]
theorem WV {t : Tk} {l : List Tk} {n : Nat} (h : t.loc = []) : JO n (l ++ [t]) = JO n l ++ [⟨t.on, ((n + (JO n l).length + 1 : Nat) : Int), t.id, [], (!decide ((t.inc.toNat : Int) = (0 : Int)))⟩] := by rw [MD, if_pos h]
theorem ZR {t : Tk} {l : List Tk} {n : Nat} (h : ¬ t.loc = []) : JO n (l ++ [t]) = JO n l := by rw [MD, if_neg h, List.append_nil]
theorem S1 {a : Ar} : ∀ {l : List Tk} {n : Nat}, a ∈ JO n l → ∃ t ∈ l, t.loc = [] ∧ a.flow = t.on ∧ a.rests = t.id ∧ a.at_ = [] ∧ a.stops = (!decide ((t.inc.toNat : Int) = (0 : Int)))
 | [], _, h => by cases h
 | t :: r, n, h => by
  rw [JO] at h
  by_cases ht : t.loc = []
  ·rw [if_pos ht] at h
   rcases List.mem_cons.1 h with rfl | h
   ·exact ⟨t, List.mem_cons_self, ht, rfl, rfl, rfl, rfl⟩
   ·obtain ⟨u, hu, h2⟩ := S1 h; exact ⟨u, List.mem_cons_of_mem _ hu, h2⟩
  ·rw [if_neg ht] at h
   obtain ⟨u, hu, h2⟩ := S1 h; exact ⟨u, List.mem_cons_of_mem _ hu, h2⟩
def KD (kept : List Tk) (flow : List UInt8) (fired : List (List UInt8)) : Mo := ⟨JO 0 kept ++ [⟨flow, (((JO 0 kept).length + 1 : Nat) : Int), 0, [], false⟩], [], fired, (JO 0 kept).length + 1⟩
theorem gU {c : CrA} {kept : List Tk} {flow : List UInt8} {fired : List (List UInt8)} {on1 : List Ar} {cm1 n : Nat} {k : Int} (hE : on1 = JO 0 kept) (hc : cm1 = on1.length) (hkF : ∀ t ∈ kept, t.loc = [] → c.isF t.on = true) (hflow : c.isF flow = true) (hk : n ≤ 300) (hol : on1.length ≤ n) : Iv c ⟨on1 ++ [⟨flow, k, 0, [], false⟩], [], fired, cm1 + 1⟩ := by
 refine ⟨fun a ha => ?_, ?_, ?_, ?_⟩
 ·simp only [List.mem_append, List.mem_singleton] at ha
  rcases ha with ha | rfl
  ·rw [hE] at ha
   obtain ⟨t, ht, h1, h2, _⟩ := S1 ha
   rw [h2]; exact hkF t ht h1
  ·exact hflow
 ·simp only [List.length_append, List.length_cons, List.length_nil]; omega
 ·simp only; omega
 ·simp only [List.length_nil]; omega
def zMvd : List Value := [.int .i64 0, str [], .int .u8 0, .slice none 0 0, .slice none 0 0, .int .i64 0, .slice none 0 0]
def oY (i : In) (L : List Tk) (nx : Int) (V : Option Addr) (vc : Nat) (T : Option Addr) (tc : Nat) (A : Option Addr) (n fc : Nat) : List Value := [.int .i64 i.id, str i.mdl, .int .u8 (if decide (((L.length : Nat) : Int) = (0 : Int)) = true then 2 else 1), .slice V i.vars.length vc, .slice T L.length tc, .int .i64 nx, .slice A n fc]
def MvF (m : Md) (c : CrA) (i : In) (kept : List Tk) (flow : List UInt8) (fired : List (List UInt8)) (next : Int) : Prop := (∃ σ', Rn m c i.vars (KD kept flow fired) σ' ∧ 1024 < σ'.fired.length) ∨ ∃ σ' ls, Rn m c i.vars (KD kept flow fired) σ' ∧ WX c σ' ∧ List.Perm ls (σ'.on ++ σ'.done) ∧ 2147483647 < next + ((ls.filter (fun a : Ar => !decide (0 < a.rests))).length : Int)
def MvD (m : Md) (c : CrA) (i : In) (kept : List Tk) (flow : List UInt8) (fired : List (List UInt8)) (next clock : Int) (e : Ending) (w2 : World) : Prop := (e = .returned (.tuple #[.agg zMvd.toArray, .int .i64 3]) ∧ MvF m c i kept flow fired next) ∨ ∃ σ' ls V' vc' T' tc' A' fc', e = .returned (.tuple #[.agg (oY i (JT c kept ls next clock) (next + ((ls.filter (fun a : Ar => !decide (0 < a.rests))).length : Int)) V' vc' T' tc' A' σ'.fired.length fc').toArray, .int .i64 0]) ∧ Rn m c i.vars (KD kept flow fired) σ' ∧ Iv c σ' ∧ WX c σ' ∧ ls.Perm (σ'.on ++ σ'.done) ∧ next + ((ls.filter (fun a : Ar => !decide (0 < a.rests))).length : Int) ≤ 2147483647 ∧ Rd w2 V' (i.vars.length * 5) (AK Bd.cells i.vars) ∧ Rd w2 T' ((JT c kept ls next clock).length * 9) (AK Tk.cells (JT c kept ls next clock)) ∧ Rd w2 A' (σ'.fired.length * 1) (AK BW σ'.fired)
theorem MvD.shape {m : Md} {c : CrA} {i : In} {kept : List Tk} {flow : List UInt8} {fired : List (List UInt8)} {next clock : Int} {e : Ending} {w' : World} (h : MvD m c i kept flow fired next clock e w') : ∃ a0 a1 a2 W0 wn wc X0 xn xc a5 Y0 yn yc er, e = .returned (.tuple #[.agg [.int .i64 a0, str a1, .int .u8 a2, .slice W0 wn wc, .slice X0 xn xc, .int .i64 a5, .slice Y0 yn yc].toArray, .int .i64 er]) ∧ (er = 0 ∨ er = 3) := by
 rcases h with ⟨rfl, _⟩ | ⟨σ', ls, V', vc', T', tc', A', fc', rfl, _⟩
 ·exact ⟨_, _, _, _, _, _, _, _, _, _, _, _, _, _, rfl, .inr rfl⟩
 ·exact ⟨_, _, _, _, _, _, _, _, _, _, _, _, _, _, rfl, .inl rfl⟩
def cT (b0 : Nat) (F0 : List Nat) (w w2 : World) : Prop := ∀ g, (g ∈ F0 ∨ b0 ≤ g) → g < w.heap.size → w2.heap[g]? = w.heap[g]?
theorem Mem.rdAgr {w0 w' w2 : World} {F0 : List Nat} {L : List As} (M : Mem w0 (fun k => k ∈ F0) L w') (i : Nat) {base e size n c : Nat} {A : Option Addr} {xs : List Value} (hi : L[i]? = some (As.own base e size (.slice A n c) n xs)) (hf : cT w0.heap.size F0 w' w2) : Rd w2 A (n * size) xs :=
 N3 ((As.own base e size (.slice A n c) n xs).keep (fun g hg hlt => hf g ((M.lt i _ hi g hg).2.elim .inr .inl) hlt) (M.ok i _ hi))
theorem XB (m : Md) (gc : Nat) (c : CrA) (F : List Nat) (V : Option Addr) (vn vc gx : Nat) (σ : Mo) (F' : List Nat) (K : Option Addr) (kc : Nat) (kept : List Tk) (next clock : Int) (w : World) (hI : Iv c σ) (h2 : σ.fired.length ≤ 1025) (h3 : kept.length ≤ 400000) (hn1 : 0 ≤ next) (hn2 : next ≤ 2147483647) (hC : CourseN w m gc c F) (hN : MoN w gc V vn vc gx σ F') (hK : Rd w K (kept.length * 9) (AK Tk.cells kept)) :
 Calls prog 62 #[pg gx, .slice K kept.length kc, .int .i64 next, .int .i64 clock] w fun e w' => ∃ ls : List Ar, ls.Perm (σ.on ++ σ.done) ∧ Fr0 w w' ∧ ∃ A c' L nx er, e = .returned (.tuple #[.slice A (L : List Tk).length c', .int .i64 nx, .int .i64 er]) ∧ w'.ownsRow w.heap.size 43 9 (.slice A L.length c') L.length (AK Tk.cells L) ∧ ((er = 3 ∧ 2147483647 < next + ((ls.filter (fun a : Ar => !decide (0 < a.rests))).length : Int)) ∨ (er = 0 ∧ next + ((ls.filter (fun a : Ar => !decide (0 < a.rests))).length : Int) ≤ 2147483647 ∧ L = JT c kept ls next clock ∧ nx = next + ((ls.filter (fun a : Ar => !decide (0 < a.rests))).length : Int))) := by
 have i1 := hI.on
 have i2 := hI.done
 refine (aV m gc c F V vn vc gx σ F' K kc kept next clock w AO AO h3 hn1 hn2 hC hN hK).mono fun e w' => ?_
 rintro ⟨ls, hp, hf, ⟨h, rfl⟩ | ⟨h, A, c', rfl, hown⟩⟩
 ·exact ⟨ls, hp, hf, none, 0, [], 0, 3, rfl, World.ownsRow_nil _ _ _ _, .inl ⟨rfl, h⟩⟩
 ·exact ⟨ls, hp, hf, A, c', _, _, 0, rfl, hown, .inr ⟨rfl, h, rfl, rfl⟩⟩
theorem G3  : prog.built 38 [] = some #[.int .i64 0, str [], .int .u8 0, .slice none 0 0, .slice none 0 0, .int .i64 0, .slice none 0 0] := by kernel_rfl
theorem IG (c0_0 c0_1 c0_2 c0_3 c0_4 : Value) (a1 : Int) (A2 : Option Addr) (n2 c2 : Nat) : prog.built 38 [(0, .agg #[c0_0, c0_1, c0_2, c0_3, c0_4]), (1, .int .i64 a1), (2, .slice A2 n2 c2)] = some #[c0_0, c0_1, c0_2, c0_3, c0_4, .int .i64 a1, .slice A2 n2 c2] := by kernel_rfl
theorem K2 (a0 : List UInt8) (a1 : Int) (a2 : Int) (a4 : Bool) : prog.built 126 [(0, str a0), (1, .int .i64 a1), (2, .int .i64 a2), (4, .bool a4)] = some #[str a0, .int .i64 a1, .int .i64 a2, str [], .bool a4] := by kernel_rfl
theorem ML (a0 : Option Addr) (A1 : Option Addr) (n1 c1 : Nat) (A4 : Option Addr) (n4 c4 : Nat) : prog.built 124 [(0, .pointer a0), (1, .slice A1 n1 c1), (4, .slice A4 n4 c4)] = some #[.pointer a0, .slice A1 n1 c1, .slice none 0 0, .slice none 0 0, .slice A4 n4 c4, .int .i64 0] := by kernel_rfl
theorem E8 : (prog.info? 29).map (·.size) = some 5 := by kernel_rfl
theorem BT : (prog.info? 38).map (·.size) = some 7 := by kernel_rfl
theorem PM : (prog.info? 27).map (·.size) = some 1 := by kernel_rfl
theorem ER : (prog.info? 38).map (·.zero) = some (some (.agg #[.int .i64 0, str [], .int .u8 0, .slice none 0 0, .slice none 0 0, .int .i64 0, .slice none 0 0])) := by kernel_rfl
theorem VR (we : World) (m : Md) (gc : Nat) (c : CrA) (Fc : List Nat) (i : In) (V T K A : Option Addr) (vc tc kc cf bf bk : Nat) (kept : List Tk) (flow : List UInt8) (fired : List (List UInt8)) (next clock : Int) (F0 : List Nat) (w : World) (ho : MdOk m) (R : Rl m) (hvl : i.vars.length ≤ 1000) (hok : BdOk i.vars) (hV : Rd we V (i.vars.length * 5) (AK Bd.cells i.vars)) (hY : Lay0 we) (hC : CourseN we m gc c Fc) (hwe : Fr0 we w) (hFe : ∀ g ∈ F0, we.heap.size ≤ g)
 (hkF : ∀ t ∈ kept, t.loc = [] → c.isF t.on = true) (hflow : c.isF flow = true) (hk : kept.length ≤ 300) (hfi : fired.length ≤ 2) (hn1 : 0 ≤ next) (hn2 : next ≤ 2147483647) (M0 : Mem w (fun k => k ∈ F0) [As.own bf 9 1 (.slice A fired.length cf) fired.length (AK BW fired), As.own bk 43 9 (.slice K kept.length kc) kept.length (AK Tk.cells kept)] w) :
 Calls prog 23 #[pg gc, .agg (In.cells i V T vc tc).toArray, .slice K kept.length kc, str flow, .slice A fired.length cf, .int .i64 next, .int .i64 clock] w fun e w' => Fr (fun k => k ∈ F0) w w' ∧ ∀ w2, cT w.heap.size F0 w' w2 → MvD m c i kept flow fired next clock e w2 := by
 refine BC (vs := [_, _, _, _, _, _, _]) func23 rfl ntmps23 rfl ?_
 have M := M0
 refine srg (CN M rfl rfl fun g8 w1 hg8 M => D6 M rfl ER fun g14 w2 hg14 M => yb rfl (nq (srg (yb rfl (yb rfl (BA M 1 rfl rfl rfl (yb rfl (ya rfl (B9 (parts := [(0, _), (1, _), (4, _)]) rfl rfl (ML _ _ _ _ _ _ _)) ?_))))))))
 refine DX M (AF rfl) rfl rfl 124 rfl rfl ([pg gc, .slice V i.vars.length vc, .slice none 0 0, .slice none 0 0, .slice A fired.length cf, .int .i64 0]) rfl fun gx w3 hgx M => ?_
 have M := M.nilOwn 126 5
 have M := M.nilOwn 126 5
 replace M : Mem w (fun k => k ∈ F0) [As.own w.heap.size 126 5 (.slice none 0 0) 0 [], As.own w.heap.size 126 5 (.slice none 0 0) 0 [], As.blk gx 124 [pg gc, .slice V i.vars.length vc, .slice none 0 0, .slice none 0 0, .slice A fired.length cf, .int .i64 ((0 : Nat) : Int)], As.blk g14 38 [.int .i64 0, str [], .int .u8 0, .slice none 0 0, .slice none 0 0, .int .i64 0, .slice none 0 0], As.blk g8 29 (In.cells i V T vc tc), As.own bf 9 1 (.slice A fired.length cf) fired.length (AK BW fired), As.own bk 43 9 (.slice K kept.length kc) kept.length (AK Tk.cells kept)] w3 := M
 refine yb rfl (nq (AD (srg (yb rfl (ya rfl (C7 rfl rfl (sl rfl)) (yb rfl (nq (AR ?_))))))))
 obtain ⟨F3, M⟩ := Mem.closeMo (on := []) (n1 := 0) (dn := []) (n2 := 0) (cm := 0) (M.pk [2, 0, 1, 5, 3, 4, 6])
 refine flp [29, 28, 16, 14, 8, 6, 5, 3, 2] (fun ze e wr mz => ∃ (j : Nat) (on1 : List Ar) (cm1 : Nat) (F1 : List Nat), e = (30, .int .i64 ((j : Nat) : Int)) :: ze ∧ Mem w (fun k => k ∈ F0) [As.mo gc V i.vars.length vc gx (⟨on1, ([] : List Ar), fired, cm1⟩ : Mo) F1, As.blk g14 38 [.int .i64 0, str [], .int .u8 0, .slice none 0 0, .slice none 0 0, .int .i64 0, .slice none 0 0], As.blk g8 29 (In.cells i V T vc tc), As.own bk 43 9 (.slice K kept.length kc) kept.length (AK Tk.cells kept)] wr ∧ (j ≤ kept.length) ∧ (on1 = JO 0 (kept.take j)) ∧ (cm1 = on1.length ∧ on1.length ≤ j) ∧ mz = kept.length - j) ⟨0, [], 0, _, rfl, M, Nat.zero_le _, rfl, ⟨rfl, Nat.le_refl _⟩, rfl⟩ ?_
 rintro _ w4 _ ⟨j, on1, cm1, F1, rfl, M, hj, hE, hcm, rfl⟩
 refine AD (AB (CB rfl rfl (AC (AA (AD (AN rfl (fun h31 => ?_) (fun h31 => ?_)))))))
 ·have h31p := (odt h31)
  refine AL (AA (AD (AR (srg ?_))))
  obtain ⟨y, hy⟩ := CA (l := kept) (i := j) AO
  obtain ⟨b_y, o_y, hA_y⟩ := BI (k := 9) AO (M.rdOwn 3 rfl) hy
  refine ya rfl (B1 j hA_y rfl rfl rfl (sl rfl) AO) (ya rfl (AT rfl rfl (BQ Tk.len (M.rdOwn 3 rfl) hA_y hy) underlying43 rfl BB) (D6 M rfl EX fun g18 w5 hg18 M => C1 M 0 rfl rfl BB rfl fun w6 M => AC (AA (AD (AB (yb rfl (BA M 0 rfl rfl rfl (ya rfl (D8 rfl rfl rfl) (AC (AA (AN rfl (fun h36 => ?_) (fun h36 => ?_))))))))))))
  ·have h36p := (odt h36)
   refine srg (yb rfl (yb rfl (yb rfl ?_)))
   have M := M.pk [1, 0, 2, 3, 4]
   obtain ⟨x6, M⟩ := Mem.openMo M
   replace M : Mem w (fun k => k ∈ F0) [As.blk gx 124 [pg gc, .slice V i.vars.length vc, .slice x6.A on1.length x6.a, .slice x6.B (([] : List Ar).length) x6.b, .slice x6.C fired.length x6.c, .int .i64 ((cm1 : Nat) : Int)], As.own 0 126 5 (.slice x6.A on1.length x6.a) on1.length (AK Ar.cells on1), As.own 0 126 5 (.slice x6.B ([] : List Ar).length x6.b) (([] : List Ar).length) (AK Ar.cells ([] : List Ar)), As.own 0 9 1 (.slice x6.C fired.length x6.c) fired.length (AK BW fired), As.blk g18 43 (Tk.cells y), As.blk g14 38 [.int .i64 0, str [], .int .u8 0, .slice none 0 0, .slice none 0 0, .int .i64 0, .slice none 0 0], As.blk g8 29 (In.cells i V T vc tc), As.own bk 43 9 (.slice K kept.length kc) kept.length (AK Tk.cells kept)] w6 := M
   refine BA M 0 rfl rfl rfl (ya rfl (BF rfl rfl rfl AO) (yb rfl (yb rfl (gp1 M 0 rfl rfl rfl GM fun w7 M => nq (CO 19 (fun w' => Mem w (fun k => k ∈ F0) [As.blk gx 124 [pg gc, .slice V i.vars.length vc, .slice x6.A on1.length x6.a, .slice x6.B (([] : List Ar).length) x6.b, .slice x6.C fired.length x6.c, .int .i64 ((cm1 + 1 : Nat) : Int)], As.own 0 126 5 (.slice x6.B ([] : List Ar).length x6.b) (([] : List Ar).length) (AK Ar.cells ([] : List Ar)), As.own 0 9 1 (.slice x6.C fired.length x6.c) fired.length (AK BW fired), As.blk g18 43 (Tk.cells y), As.blk g14 38 [.int .i64 0, str [], .int .u8 0, .slice none 0 0, .slice none 0 0, .int .i64 0, .slice none 0 0], As.blk g8 29 (In.cells i V T vc tc), As.own bk 43 9 (.slice K kept.length kc) kept.length (AK Tk.cells kept)] w') CU ?_)))))
   have M := M.drew
   refine oc 0 19 rfl rfl (M.pk [0, 2, 3, 4, 5, 6, 7]) (oc 1 19 rfl rfl (M.pk [0, 2, 3, 4, 5, 6, 7]) (oc 2 19 rfl rfl (M.pk [0, 2, 3, 4, 5, 6, 7]) (oc 3 19 rfl rfl (M.pk [0, 2, 3, 4, 5, 6, 7]) (ol 4 19 rfl rfl rfl (M.pk [0, 2, 3, 4, 5, 6, 7]) (fun _ M => (M.cell 0 rfl rfl)) (oc 5 19 rfl rfl (M.pk [0, 2, 3, 4, 5, 6, 7]) (ol 6 19 rfl rfl rfl (M.pk [0, 2, 3, 4, 5, 6, 7]) (fun _ M => (M.cell 3 rfl rfl)) (oc 7 19 rfl rfl (M.pk [0, 2, 3, 4, 5, 6, 7]) (oc 8 19 rfl rfl (M.pk [0, 2, 3, 4, 5, 6, 7]) (oc 9 19 rfl rfl (M.pk [0, 2, 3, 4, 5, 6, 7]) (ol 10 19 rfl rfl rfl (M.pk [0, 2, 3, 4, 5, 6, 7]) (fun _ M => (M.cell 0 rfl rfl)) (oc 11 19 rfl rfl (M.pk [0, 2, 3, 4, 5, 6, 7]) (ol 12 19 rfl rfl rfl (M.pk [0, 2, 3, 4, 5, 6, 7]) (fun _ M => (M.cell 3 rfl rfl)) (oc 13 19 rfl rfl (M.pk [0, 2, 3, 4, 5, 6, 7]) (ol 14 19 rfl rfl rfl (M.pk [0, 2, 3, 4, 5, 6, 7]) (fun _ M => (M.cell 3 rfl rfl)) (oa 15 19 rfl rfl (M.pk [0, 2, 3, 4, 5, 6, 7]) (fun _ M => DC rfl rfl rfl) ?_)))))))))))))))
   refine oa 16 19 rfl rfl (M.pk [0, 2, 3, 4, 5, 6, 7]) (fun _ M => B9 (parts := [(0, _), (1, _), (2, _), (4, _)]) rfl rfl (K2 _ _ _ _)) (B7 17 (some 61) gkr rfl (AF rfl) rfl rfl (fun ρ hρ => DL [.agg #[str y.on, .int .i64 ((cm1 + 1 : Nat) : Int), .int .i64 y.id, str [], .bool (!decide ((y.inc.toNat : Int) = (0 : Int)))]] _ hρ rfl rfl rfl rfl underlying122 HW BR BR (GX rfl)) ?_)
   rintro _ w8 ⟨g61, rfl, hg61, hq61, hb61, hfw8⟩
   replace hb61 : Blk w8 g61 126 ([str y.on, .int .i64 ((cm1 + 1 : Nat) : Int), .int .i64 y.id, str [], .bool (!decide ((y.inc.toNat : Int) = (0 : Int)))]) := hb61
   refine ⟨fun _ => (M.pk [0, 2, 3, 4, 5, 6, 7]).step hfw8, ?_⟩
   have M := M.push hfw8 _ hb61 (DV hg61 hq61)
   replace M : Mem w (fun k => k ∈ F0) (As.blk g61 126 ([str y.on, .int .i64 ((cm1 + 1 : Nat) : Int), .int .i64 y.id, str [], .bool (!decide ((y.inc.toNat : Int) = (0 : Int)))]) :: _) w8 := M
   refine B7 18 (some 62) gkr rfl (AF rfl) rfl rfl (fun ρ hρ => DI _ _ _ rfl 0 _ _ _ _ underlying122 FB rfl BR _ _ _ (hρ _ _ rfl) (M.own 2 rfl) _ _ _ _ (hρ _ _ rfl) (M.rdBlk 0 rfl rfl) (BL rfl) (by unfold maxLen; first | omega | (simp; omega)) (by first | omega | (simp; omega)) (Nat.zero_le _)) ?_
   rintro v62 w9 ⟨ho62, hgr62, hvb62⟩
   replace ho62 : World.ownsRow w9 0 126 5 v62 ((on1 ++ [(⟨y.on, ((cm1 + 1 : Nat) : Int), y.id, [], (!decide ((y.inc.toNat : Int) = (0 : Int)))⟩ : Ar)]).length) (AK Ar.cells (on1 ++ [(⟨y.on, ((cm1 + 1 : Nat) : Int), y.id, [], (!decide ((y.inc.toNat : Int) = (0 : Int)))⟩ : Ar)])) := by rw [show ((on1 ++ [(⟨y.on, ((cm1 + 1 : Nat) : Int), y.id, [], (!decide ((y.inc.toNat : Int) = (0 : Int)))⟩ : Ar)]).length) = on1.length + 1 from by simp, show (AK Ar.cells (on1 ++ [(⟨y.on, ((cm1 + 1 : Nat) : Int), y.id, [], (!decide ((y.inc.toNat : Int) = (0 : Int)))⟩ : Ar)])) = (AK Ar.cells on1) ++ [str y.on, .int .i64 ((cm1 + 1 : Nat) : Int), .int .i64 y.id, str [], .bool (!decide ((y.inc.toNat : Int) = (0 : Int)))] from by first | exact BY _ _ _ | simp [AK, Ar.cells]]; exact ho62
   have M := M.appOwn 2 rfl ho62 hgr62 hvb62
   obtain ⟨A62, c62, rfl, _⟩ := E1 ho62
   refine ⟨fun _ => (M.pk [1, 3, 4, 5, 6, 7, 8]), fo1 19 rfl rfl (yp rfl) (fo1 20 rfl rfl (yp rfl) (B7 21 none gkr rfl (AF rfl) rfl rfl (fun ρ hρ => E2 122 _ _ rfl gx 2 124 _ (.slice A62 ((on1 ++ [(⟨y.on, ((cm1 + 1 : Nat) : Int), y.id, [], (!decide ((y.inc.toNat : Int) = (0 : Int)))⟩ : Ar)]).length) c62) (hρ _ _ rfl) (hρ _ _ rfl) rfl (M.blk 1 rfl) FQ (CJ rfl) rfl) ?_))⟩
   rintro _ w10 ⟨rfl, hbw10, hfw10⟩
   replace M : Mem w (fun k => k ∈ F0) (List.set _ 1 (As.blk gx 124 [pg gc, .slice V i.vars.length vc, .slice A62 ((on1 ++ [(⟨y.on, ((cm1 + 1 : Nat) : Int), y.id, [], (!decide ((y.inc.toNat : Int) = (0 : Int)))⟩ : Ar)]).length) c62, .slice x6.B (([] : List Ar).length) x6.b, .slice x6.C fired.length x6.c, .int .i64 ((cm1 + 1 : Nat) : Int)])) w10 := M.putB 1 rfl hbw10 hfw10
   refine ⟨fun h => absurd h BR, fdn (AH (AA (AB (ya rfl (BF rfl rfl rfl AO) (yb rfl (AC ?_))))))⟩
   obtain ⟨F8, M⟩ := Mem.closeMo (M.pk [1, 2, 3, 4, 0, 5, 6, 7, 8])
   refine fag ⟨j + 1, on1 ++ [(⟨y.on, ((cm1 + 1 : Nat) : Int), y.id, [], (!decide ((y.inc.toNat : Int) = (0 : Int)))⟩ : Ar)], cm1 + 1, F8, rfl, (M.pk [0, 3, 4, 5]), ?_, ?_, ?_, rfl⟩
   ·omega
   ·rw [B2 hy]
    first
     | rw [WV h36p, Nat.zero_add, ← hE, hcm.1]
     | rw [ZR h36p, ← hE]
   ·first
     | exact ⟨hcm.1, by omega⟩
     | exact ⟨by simp [hcm.1], by simp; omega⟩
  ·have h36p := (odf h36)
   refine AL (AH (AA (AB (ya rfl (BF rfl rfl rfl AO) (yb rfl (AC (fag ⟨j + 1, on1, cm1, F1, rfl, (M.pk [1, 2, 3, 4]), ?_, ?_, ?_, rfl⟩)))))))
   ·omega
   ·rw [B2 hy]
    first
     | rw [WV h36p, Nat.zero_add, ← hE, hcm.1]
     | rw [ZR h36p, ← hE]
   ·first
     | exact ⟨hcm.1, by omega⟩
     | exact ⟨by simp [hcm.1], by simp; omega⟩
 ·have h31p := (odf h31)
  refine BG (AJ (AJ ?_))
  obtain rfl : j = kept.length := by omega
  rw [List.take_length] at hE
  have hol := hcm.2
  refine AY (AA (srg (yb rfl (yb rfl (cl 68 rfl (AQ rfl rfl call60) (N1 gc V i.vars.length vc gx (⟨on1, ([] : List Ar), fired, cm1⟩ : Mo) F1 flow _ (by first | omega | (simp; omega) | (simp [List.length_eraseIdx]; split <;> omega)) (by first | omega | (simp; omega) | (simp [List.length_eraseIdx]; split <;> omega)) (M.ok 0 _ rfl)) ?_)))))
  rintro _ w11 ⟨rfl, F9, hNw11, hqw11, hfw11⟩
  refine ⟨_, rfl, ?_⟩
  have M := M.updMo 0 rfl (σ' := (⟨on1 ++ [(⟨flow, ((cm1 + 1 : Nat) : Int), 0, [], false⟩ : Ar)], ([] : List Ar), fired, cm1 + 1⟩ : Mo)) hNw11 hqw11 hfw11
  refine nq (AD (srg (yb rfl ?_)))
  have hIv : Iv c (⟨on1 ++ [(⟨flow, ((cm1 + 1 : Nat) : Int), 0, [], false⟩ : Ar)], ([] : List Ar), fired, cm1 + 1⟩ : Mo) := gU hE hcm.1 hkF hflow hk hol
  refine cl 70 rfl (AQ rfl rfl call61) (oM we m gc c Fc V vc gx i.vars (⟨on1 ++ [(⟨flow, ((cm1 + 1 : Nat) : Int), 0, [], false⟩ : Ar)], ([] : List Ar), fired, cm1 + 1⟩ : Mo) F9 _ ho R AO hok hV hY hC (C6 hwe M.fr hFe) (moF M 0 rfl hFe hwe.size) (M.ok 0 _ rfl) hIv hfi) ?_
  rintro _ w12 ⟨er, σ', rfl, ⟨F9, hN9, hq9, hf9⟩, hRn, hIv9, hf9l, hres⟩
  refine ⟨_, rfl, ?_⟩
  obtain ⟨on3, dn3, fi3, cm3⟩ := σ'
  have M := M.updMo 0 rfl (σ' := (⟨on3, dn3, fi3, cm3⟩ : Mo)) hN9 hq9 hf9
  rw [hcm.1, hE] at hRn
  refine yb rfl (AC (AA (AD (AB (yb rfl (D4 rfl rfl (AC (AA (AN rfl (fun h72 => ?_) (fun h72 => ?_))))))))))
  ·refine srg (ya rfl (B9 (parts := []) rfl rfl (G3)) (yb rfl (C1 M 1 rfl rfl BT rfl fun w13 M => yb rfl (nq (AI (AE (B8 rfl rfl (M.rdBlk 1 rfl rfl) underlying38 rfl BT rfl ?_)))))))
   have he : er = 3 ∧ _ := hres.elim (fun h => by rw [h.1] at h72; cases h72) id
   rw [he.1]
   exact ⟨M.fr, fun _ _ => .inl ⟨rfl, .inl ⟨_, hRn, he.2⟩⟩⟩
  ·have h72p := (odt (BM h72))
   refine AL (AA (srg ?_))
   iterate 4 refine yb rfl ?_
   refine cl 80 rfl (AQ rfl rfl call62) (XB m gc c Fc V i.vars.length vc gx (⟨on3, dn3, fi3, cm3⟩ : Mo) F9 K kc kept next clock _ hIv9 hf9l AO hn1 hn2 (hC.fr0 (C6 hwe M.fr hFe)) (M.ok 0 _ rfl) (M.rdOwn 3 rfl)) ?_
   rintro _ w14 ⟨ls, hpl, hfw14, A', c', L', nx, er2, rfl, how14, hres2⟩
   refine ⟨_, rfl, ?_⟩
   have M := M.pushOwn hfw14 (Nat.le_refl _) how14
   iterate 7 refine yb rfl ?_
   refine AC (AA (AD (AD (AB (yb rfl (D4 rfl rfl (AC (AA (AN rfl (fun h85 => ?_) (fun h85 => ?_))))))))))
   ·refine srg (ya rfl (B9 (parts := []) rfl rfl (G3)) (yb rfl (C1 M 2 rfl rfl BT rfl fun w15 M => yb rfl (nq (AI (AE (B8 rfl rfl (M.rdBlk 2 rfl rfl) underlying38 rfl BT rfl ?_)))))))
    have he : er2 = 3 ∧ _ := hres2.elim id (fun h => by rw [h.1] at h85; cases h85)
    obtain ⟨_, hrst⟩ : er = 0 ∧ WX c (⟨on3, dn3, fi3, cm3⟩ : Mo) := hres.elim id (fun h => by rw [h.1] at h72; cases h72)
    rw [he.1]
    exact ⟨M.fr, fun _ _ => .inl ⟨rfl, .inr ⟨_, ls, hRn, hrst, hpl, he.2⟩⟩⟩
   ·have h85p := (odt (BM h85))
    refine AL (AA (srg (yb rfl (BA M 3 rfl rfl rfl (cl 90 rfl (AQ rfl rfl call45) (ZM V vc i.vars _ AO (hV.fr0 (C6 hwe M.fr hFe))) ?_)))))
    rintro _ w16 ⟨A90, c90, rfl, how16, hfw16⟩
    refine ⟨_, rfl, ?_⟩
    have M := M.pushOwn hfw16 (Nat.le_refl _) how16
    refine yb rfl (yb rfl (gp1 M 4 rfl rfl rfl L4 fun w17 M => yb rfl (gp1 M 4 rfl rfl rfl PM fun w18 M => yb rfl (gp1 M 4 rfl rfl rfl JS fun w19 M => nq (AD (srg (yb rfl ?_)))))))
    refine ya rfl (C7 rfl rfl (sl rfl)) (CI rfl rfl (AC (AA (AN rfl (fun h97 => ?_) (fun h97 => ?_)))))
    ·refine AB (yb rfl (gp1 M 4 rfl rfl rfl JS fun w20 M => nq (AD (DN 7 CU gkr ?_))))
     have M := M.drew
     refine sa rfl (AT (xs := [.int .i64 i.id, str i.mdl, .int .u8 2, .slice A90 i.vars.length c90, .slice A' L'.length c']) rfl rfl (M.rdBlk 4 rfl rfl) underlying29 rfl E8) ?_
     iterate 4 refine sb rfl ?_
     have M := M.pk [2, 0, 1, 3, 4, 5]
     obtain ⟨x10, M⟩ := Mem.openMo M
     replace M : Mem w (fun k => k ∈ F0) [As.blk gx 124 [pg gc, .slice V i.vars.length vc, .slice x10.A on3.length x10.a, .slice x10.B dn3.length x10.b, .slice x10.C fi3.length x10.c, .int .i64 ((cm3 : Nat) : Int)], As.own 0 126 5 (.slice x10.A on3.length x10.a) on3.length (AK Ar.cells on3), As.own 0 126 5 (.slice x10.B dn3.length x10.b) dn3.length (AK Ar.cells dn3), As.own 0 9 1 (.slice x10.C fi3.length x10.c) fi3.length (AK BW fi3), As.own w.heap.size 47 5 (.slice A90 i.vars.length c90) i.vars.length (AK Bd.cells i.vars), As.own w.heap.size 43 9 (.slice A' L'.length c') L'.length (AK Tk.cells L'), As.blk g14 38 [.int .i64 0, str [], .int .u8 0, .slice none 0 0, .slice none 0 0, .int .i64 0, .slice none 0 0], As.blk g8 29 [.int .i64 i.id, str i.mdl, .int .u8 2, .slice A90 i.vars.length c90, .slice A' L'.length c'], As.own bk 43 9 (.slice K kept.length kc) kept.length (AK Tk.cells kept)] w20.drew := M
     refine FK M 0 rfl rfl rfl (sa rfl (B9 (parts := [(0, _), (1, _), (2, _)]) rfl rfl (IG _ _ _ _ _ _ _ _ _)) (CS (C1 M 6 rfl rfl BT rfl fun w21 M => yb rfl (nq (AI (B8 rfl rfl (M.rdBlk 6 rfl rfl) underlying38 rfl BT rfl ?_))))))
     obtain ⟨he1, hrst⟩ : er = 0 ∧ WX c (⟨on3, dn3, fi3, cm3⟩ : Mo) := hres.elim id (fun h => by rw [h.1] at h72; cases h72)
     obtain ⟨hle, rfl, rfl⟩ : next + ((ls.filter (fun a : Ar => !decide (0 < a.rests))).length : Int) ≤ 2147483647 ∧ L' = JT c kept ls next clock ∧ nx = next + ((ls.filter (fun a : Ar => !decide (0 < a.rests))).length : Int) := hres2.elim (fun h => by rw [h.1] at h85; cases h85) (fun h => h.2)
     refine ⟨M.fr, fun w2 hw2 => .inr ⟨(⟨on3, dn3, fi3, cm3⟩ : Mo), ls, A90, c90, A', c', x10.C, x10.c, ?_, hRn, hIv9, hrst, hpl, hle, M.rdAgr 4 rfl hw2, M.rdAgr 5 rfl hw2, M.rdAgr 3 rfl hw2⟩⟩
     rw [oY, if_pos h97]
    ·refine AL (AA (AD (DN 7 CU gkr ?_)))
     have M := M.drew
     refine sa rfl (AT (xs := [.int .i64 i.id, str i.mdl, .int .u8 1, .slice A90 i.vars.length c90, .slice A' L'.length c']) rfl rfl (M.rdBlk 4 rfl rfl) underlying29 rfl E8) ?_
     iterate 4 refine sb rfl ?_
     have M := M.pk [2, 0, 1, 3, 4, 5]
     obtain ⟨x11, M⟩ := Mem.openMo M
     replace M : Mem w (fun k => k ∈ F0) [As.blk gx 124 [pg gc, .slice V i.vars.length vc, .slice x11.A on3.length x11.a, .slice x11.B dn3.length x11.b, .slice x11.C fi3.length x11.c, .int .i64 ((cm3 : Nat) : Int)], As.own 0 126 5 (.slice x11.A on3.length x11.a) on3.length (AK Ar.cells on3), As.own 0 126 5 (.slice x11.B dn3.length x11.b) dn3.length (AK Ar.cells dn3), As.own 0 9 1 (.slice x11.C fi3.length x11.c) fi3.length (AK BW fi3), As.own w.heap.size 47 5 (.slice A90 i.vars.length c90) i.vars.length (AK Bd.cells i.vars), As.own w.heap.size 43 9 (.slice A' L'.length c') L'.length (AK Tk.cells L'), As.blk g14 38 [.int .i64 0, str [], .int .u8 0, .slice none 0 0, .slice none 0 0, .int .i64 0, .slice none 0 0], As.blk g8 29 [.int .i64 i.id, str i.mdl, .int .u8 1, .slice A90 i.vars.length c90, .slice A' L'.length c'], As.own bk 43 9 (.slice K kept.length kc) kept.length (AK Tk.cells kept)] w19.drew := M
     refine FK M 0 rfl rfl rfl (sa rfl (B9 (parts := [(0, _), (1, _), (2, _)]) rfl rfl (IG _ _ _ _ _ _ _ _ _)) (CS (C1 M 6 rfl rfl BT rfl fun w22 M => yb rfl (nq (AI (B8 rfl rfl (M.rdBlk 6 rfl rfl) underlying38 rfl BT rfl ?_))))))
     obtain ⟨he1, hrst⟩ : er = 0 ∧ WX c (⟨on3, dn3, fi3, cm3⟩ : Mo) := hres.elim id (fun h => by rw [h.1] at h72; cases h72)
     obtain ⟨hle, rfl, rfl⟩ : next + ((ls.filter (fun a : Ar => !decide (0 < a.rests))).length : Int) ≤ 2147483647 ∧ L' = JT c kept ls next clock ∧ nx = next + ((ls.filter (fun a : Ar => !decide (0 < a.rests))).length : Int) := hres2.elim (fun h => by rw [h.1] at h85; cases h85) (fun h => h.2)
     refine ⟨M.fr, fun w2 hw2 => .inr ⟨(⟨on3, dn3, fi3, cm3⟩ : Mo), ls, A90, c90, A', c', x11.C, x11.c, ?_, hRn, hIv9, hrst, hpl, hle, M.rdAgr 4 rfl hw2, M.rdAgr 5 rfl hw2, M.rdAgr 3 rfl hw2⟩⟩
     rw [oY, if_neg (AS h97)]
end Go.Proofs.YtjaocmocdhckaaaGreatDoor
