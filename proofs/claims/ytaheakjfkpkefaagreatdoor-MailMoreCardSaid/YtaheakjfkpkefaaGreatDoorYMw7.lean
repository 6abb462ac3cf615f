/- Lemmas that the last text rests on. Condition: each says its own. -/
import Derived.Test.YtaheakjfkpkefaaGreatDoorYMw6
set_option maxHeartbeats 16000000
set_option maxRecDepth 100000
namespace Go.Proofs.YtaheakjfkpkefaaGreatDoor
open Go.RowKit
open Tryz
structure In where
 id : Int
 mdl : List UInt8
 st : UInt8
 vars : List Bd
 toks : List Tk
def In.cells (i : In) (V T : Option Addr) (vc tc : Nat) : List Value := [.int .i64 i.id, str i.mdl, .int .u8 (i.st.toNat : Int), .slice V i.vars.length vc, .slice T i.toks.length tc]
def JJ : Nat → List Tk → List Ar
 | _, [] => []
 | n, t :: r => if t.loc = [] then ⟨t.on, ((n + 1 : Nat) : Int), t.id, [], (!decide ((t.inc.toNat : Int) = (0 : Int)))⟩ :: JJ (n + 1) r else JJ n r
theorem M6 (t : Tk) : ∀ (l : List Tk) (n : Nat), JJ n (l ++ [t]) = JJ n l ++ (if t.loc = [] then [⟨t.on, ((n + (JJ n l).length + 1 : Nat) : Int), t.id, [], (!decide ((t.inc.toNat : Int) = 0))⟩] else [])
 | [], n => by
  show (if t.loc = [] then _ else _) = _
  split <;> rfl
 | u :: r, n => by
  rw [List.cons_append, JJ, JJ]
  by_cases hu : u.loc = []
  ·rw [if_pos hu, if_pos hu, M6 t r (n + 1), List.cons_append, List.length_cons, show n + 1 + (JJ (n + 1) r).length + 1 = n + ((JJ (n + 1) r).length + 1) + 1 by omega]
  ·rw [if_neg hu, if_neg hu, M6 t r n]
theorem XI {t : Tk} {l : List Tk} {n : Nat} (h : t.loc = []) : JJ n (l ++ [t]) = JJ n l ++ [⟨t.on, ((n + (JJ n l).length + 1 : Nat) : Int), t.id, [], (!decide ((t.inc.toNat : Int) = 0))⟩] := by rw [M6, if_pos h]
theorem aU {t : Tk} {l : List Tk} {n : Nat} (h : ¬ t.loc = []) : JJ n (l ++ [t]) = JJ n l := by rw [M6, if_neg h, List.append_nil]
theorem SJ {a : Ar} : ∀ {l : List Tk} {n : Nat}, a ∈ JJ n l → ∃ t ∈ l, t.loc = [] ∧ a.flow = t.on ∧ a.rests = t.id ∧ a.at_ = [] ∧ a.stops = (!decide ((t.inc.toNat : Int) = 0))
 | [], _, h => by cases h
 | t :: r, n, h => by
  rw [JJ] at h
  by_cases ht : t.loc = []
  ·rw [if_pos ht] at h
   rcases List.mem_cons.1 h with rfl | h
   ·exact ⟨t, List.mem_cons_self, ht, rfl, rfl, rfl, rfl⟩
   ·obtain ⟨u, hu, h2⟩ := SJ h; exact ⟨u, List.mem_cons_of_mem _ hu, h2⟩
  ·rw [if_neg ht] at h
   obtain ⟨u, hu, h2⟩ := SJ h; exact ⟨u, List.mem_cons_of_mem _ hu, h2⟩
def K4 (kept : List Tk) (flow : List UInt8) (fired : List (List UInt8)) : Mo := ⟨JJ 0 kept ++ [⟨flow, (((JJ 0 kept).length + 1 : Nat) : Int), 0, [], false⟩], [], fired, (JJ 0 kept).length + 1⟩
theorem jQ {c : CrA} {kept : List Tk} {flow : List UInt8} {fired : List (List UInt8)} {on1 : List Ar} {cm1 n : Nat} {k : Int} (hE : on1 = JJ 0 kept) (hc : cm1 = on1.length) (hkF : ∀ t ∈ kept, t.loc = [] → c.isF t.on = true) (hflow : c.isF flow = true) (hk : n ≤ 300) (hol : on1.length ≤ n) : Iv c ⟨on1 ++ [⟨flow, k, 0, [], false⟩], [], fired, cm1 + 1⟩ := by
 refine ⟨fun a ha => ?_, ?_, ?_, ?_⟩
 ·simp only [List.mem_append, List.mem_singleton] at ha
  rcases ha with ha | rfl
  ·rw [hE] at ha
   obtain ⟨t, ht, h1, h2, _⟩ := SJ ha
   rw [h2]; exact hkF t ht h1
  ·exact hflow
 ·simp only [List.length_append, List.length_cons, List.length_nil]; omega
 ·simp only; omega
 ·simp only [List.length_nil]; omega
def zMvd : List Value := [.int .i64 0, str [], .int .u8 0, .slice none 0 0, .slice none 0 0, .int .i64 0, .slice none 0 0]
def rB (i : In) (L : List Tk) (nx : Int) (V : Option Addr) (vc : Nat) (T : Option Addr) (tc : Nat) (A : Option Addr) (n fc : Nat) : List Value := [.int .i64 i.id, str i.mdl, .int .u8 (if decide (((L.length : Nat) : Int) = (0 : Int)) = true then 2 else 1), .slice V i.vars.length vc, .slice T L.length tc, .int .i64 nx, .slice A n fc]
def MvF (m : Md) (c : CrA) (i : In) (kept : List Tk) (flow : List UInt8) (fired : List (List UInt8)) (next : Int) : Prop := (∃ σ', Rn m c i.vars (K4 kept flow fired) σ' ∧ 1024 < σ'.fired.length) ∨ ∃ σ' ls, Rn m c i.vars (K4 kept flow fired) σ' ∧ Z2 c σ' ∧ List.Perm ls (σ'.on ++ σ'.done) ∧ 2147483647 < next + ((ls.filter (fun a : Ar => !decide (0 < a.rests))).length : Int)
def MvD (m : Md) (c : CrA) (i : In) (kept : List Tk) (flow : List UInt8) (fired : List (List UInt8)) (next clock : Int) (e : Ending) (w2 : World) : Prop := (e = .returned (.tuple #[.agg zMvd.toArray, .int .i64 3]) ∧ MvF m c i kept flow fired next) ∨ ∃ σ' ls V' vc' T' tc' A' fc', e = .returned (.tuple #[.agg (rB i (JM c kept ls next clock) (next + ((ls.filter (fun a : Ar => !decide (0 < a.rests))).length : Int)) V' vc' T' tc' A' σ'.fired.length fc').toArray, .int .i64 0]) ∧ Rn m c i.vars (K4 kept flow fired) σ' ∧ (Iv c σ' ∧ σ'.fired.length ≤ 1025) ∧ Z2 c σ' ∧ ls.Perm (σ'.on ++ σ'.done) ∧ next + ((ls.filter (fun a : Ar => !decide (0 < a.rests))).length : Int) ≤ 2147483647 ∧ Rd w2 V' (i.vars.length * 5) (AB Bd.cells i.vars) ∧ Rd w2 T' ((JM c kept ls next clock).length * 9) (AB Tk.cells (JM c kept ls next clock)) ∧ Rd w2 A' (σ'.fired.length * 1) (AB BK σ'.fired)
theorem MvD.shape {m : Md} {c : CrA} {i : In} {kept : List Tk} {flow : List UInt8} {fired : List (List UInt8)} {next clock : Int} {e : Ending} {w' : World} (h : MvD m c i kept flow fired next clock e w') : ∃ a0 a1 a2 W0 wn wc X0 xn xc a5 Y0 yn yc er, e = .returned (.tuple #[.agg [AA a0, str a1, .int .u8 a2, .slice W0 wn wc, .slice X0 xn xc, AA a5, .slice Y0 yn yc].toArray, AA er]) ∧ (er = 0 ∨ er = 3) := by
 rcases h with ⟨rfl, _⟩ | ⟨σ', ls, V', vc', T', tc', A', fc', rfl, _⟩
 ·exact ⟨_, _, _, _, _, _, _, _, _, _, _, _, _, _, rfl, .inr rfl⟩
 ·exact ⟨_, _, _, _, _, _, _, _, _, _, _, _, _, _, rfl, .inl rfl⟩
def SM (b0 : Nat) (F0 : List Nat) (w w2 : World) : Prop := ∀ g, (g ∈ F0 ∨ b0 ≤ g) → g < w.heap.size → w2.heap[g]? = w.heap[g]?
theorem Mem.rdAgr {w0 w' w2 : World} {F0 : List Nat} {L : List As} (M : Mem w0 (fun k => k ∈ F0) L w') (i : Nat) {base e size n c : Nat} {A : Option Addr} {xs : List Value} (hi : L[i]? = some (As.own base e size (.slice A n c) n xs)) (hf : SM w0.heap.size F0 w' w2) : Rd w2 A (n * size) xs :=
 K7 ((As.own base e size (.slice A n c) n xs).keep (fun g hg hlt => hf g ((M.lt i _ hi g hg).2.elim .inr .inl) hlt) (M.ok i _ hi))
theorem W3 (m : Md) (gc : Nat) (c : CrA) (F : List Nat) (V : Option Addr) (vn vc gx : Nat) (σ : Mo) (F' : List Nat) (K : Option Addr) (kc : Nat) (kept : List Tk) (next clock : Int) (w : World) (hI : Iv c σ) (h2 : σ.fired.length ≤ 1025) (h3 : kept.length ≤ 400000) (hn1 : 0 ≤ next) (hn2 : next ≤ 2147483647) (hC : CourseN w m gc c F) (hN : MoN w gc V vn vc gx σ F') (hK : Rd w K (kept.length * 9) (AB Tk.cells kept)) {Q : Nat → Prop} (hS : SK Q) (hQ : Q (σ.on ++ σ.done).length) :
 Calls prog 55 #[pg gx, .slice K kept.length kc, AA next, AA clock] w fun e w' => ∃ ls : List Ar, ls.Perm (σ.on ++ σ.done) ∧ Fr0 w w' ∧ ∃ A c' L nx er, e = .returned (.tuple #[.slice A (L : List Tk).length c', AA nx, AA er]) ∧ w'.ownsRow w.heap.size 56 9 (.slice A L.length c') L.length (AB Tk.cells L) ∧ ((er = 3 ∧ 2147483647 < next + ((ls.filter (fun a : Ar => !decide (0 < a.rests))).length : Int)) ∨ (er = 0 ∧ next + ((ls.filter (fun a : Ar => !decide (0 < a.rests))).length : Int) ≤ 2147483647 ∧ L = JM c kept ls next clock ∧ nx = next + ((ls.filter (fun a : Ar => !decide (0 < a.rests))).length : Int))) := by
 have i1 := hI.on
 have i2 := hI.done
 refine (Y5 m gc c F V vn vc gx σ F' K kc kept next clock w A0 A0 h3 hn1 hn2 hC hN hK hS hQ).mono fun e w' => ?_
 rintro ⟨ls, hp, hf, ⟨h, rfl⟩ | ⟨h, A, c', rfl, hown⟩⟩
 ·exact ⟨ls, hp, hf, none, 0, [], 0, 3, rfl, World.ownsRow_nil _ _ _ _, .inl ⟨rfl, h⟩⟩
 ·exact ⟨ls, hp, hf, A, c', _, _, 0, rfl, hown, .inr ⟨rfl, h, rfl, rfl⟩⟩
theorem JH  : prog.built 50 [] = some #[AA 0, str [], .int .u8 0, .slice none 0 0, .slice none 0 0, AA 0, .slice none 0 0] := by kernel_rfl
theorem I2 (c0_0 c0_1 c0_2 c0_3 c0_4 : Value) (a1 : Int) (A2 : Option Addr) (n2 c2 : Nat) : prog.built 50 [(0, .agg #[c0_0, c0_1, c0_2, c0_3, c0_4]), (1, AA a1), (2, .slice A2 n2 c2)] = some #[c0_0, c0_1, c0_2, c0_3, c0_4, AA a1, .slice A2 n2 c2] := by kernel_rfl
theorem JU (a0 : List UInt8) (a1 : Int) (a2 : Int) (a4 : Bool) : prog.built 139 [(0, str a0), (1, AA a1), (2, AA a2), (4, .bool a4)] = some #[str a0, AA a1, AA a2, str [], .bool a4] := by kernel_rfl
theorem MD (a0 : Option Addr) (A1 : Option Addr) (n1 c1 : Nat) (A4 : Option Addr) (n4 c4 : Nat) : prog.built 137 [(0, .pointer a0), (1, .slice A1 n1 c1), (4, .slice A4 n4 c4)] = some #[.pointer a0, .slice A1 n1 c1, .slice none 0 0, .slice none 0 0, .slice A4 n4 c4, AA 0] := by kernel_rfl
theorem CH : (prog.info? 33).map (·.size) = some 5 := by kernel_rfl
theorem CD : (prog.info? 50).map (·.size) = some 7 := by kernel_rfl
theorem HZ : (prog.info? 31).map (·.size) = some 1 := by kernel_rfl
theorem HI : (prog.info? 50).map (·.zero) = some (some (.agg #[AA 0, str [], .int .u8 0, .slice none 0 0, .slice none 0 0, AA 0, .slice none 0 0])) := by kernel_rfl
theorem cS (we : World) (m : Md) (gc : Nat) (c : CrA) (Fc : List Nat) (i : In) (V T K A : Option Addr) (vc tc kc cf bf bk : Nat) (kept : List Tk) (flow : List UInt8) (fired : List (List UInt8)) (next clock : Int) (F0 : List Nat) (w : World) (_ho : MdOk m) (R : Rl m) (hvl : i.vars.length ≤ 1000) (hV : Rd we V (i.vars.length * 5) (AB Bd.cells i.vars)) (hC : CourseN we m gc c Fc) (hwe : Fr0 we w) (hFe : ∀ g ∈ F0, we.heap.size ≤ g)
 (hkF : ∀ t ∈ kept, t.loc = [] → c.isF t.on = true) (hflow : c.isF flow = true) (hk : kept.length ≤ 300) (hfi : fired.length ≤ 2) (hn1 : 0 ≤ next) (hn2 : next ≤ 2147483647) (M0 : Mem w (fun k => k ∈ F0) [As.own bf 9 1 (.slice A fired.length cf) fired.length (AB BK fired), As.own bk 56 9 (.slice K kept.length kc) kept.length (AB Tk.cells kept)] w) {Q : Nat → Prop} (hS : SK Q) (hps : QO we m gc c V vc i.vars) (hQ : ∀ σ', Rn m c i.vars (K4 kept flow fired) σ' → Q (σ'.on ++ σ'.done).length) :
 Calls prog 27 #[pg gc, .agg (In.cells i V T vc tc).toArray, .slice K kept.length kc, str flow, .slice A fired.length cf, AA next, AA clock] w fun e w' => Fr (fun k => k ∈ F0) w w' ∧ ∀ w2, SM w.heap.size F0 w' w2 → MvD m c i kept flow fired next clock e w2 := by
 refine sx_enter (vs := [_, _, _, _, _, _, _]) func27 rfl ntmps27 rfl ?_
 have M := M0
 refine srg (DD M rfl rfl fun g8 w1 hg8 M => CO M rfl HI fun g14 w2 hg14 M => AG rfl (AC rfl (yb rfl (B2 M 1 rfl rfl rfl (yb rfl (ya rfl (AY (parts := [(0, _), (1, _), (4, _)]) rfl rfl (MD _ _ _ _ _ _ _)) ?_))))))
 refine DB M (wn_none rfl) rfl rfl 137 rfl rfl ([pg gc, .slice V i.vars.length vc, .slice none 0 0, .slice none 0 0, .slice A fired.length cf, AA 0]) rfl fun gx w3 hgx M => ?_
 have M := M.nilOwn 139 5
 have M := M.nilOwn 139 5
 replace M : Mem w (fun k => k ∈ F0) [As.own w.heap.size 139 5 (.slice none 0 0) 0 [], As.own w.heap.size 139 5 (.slice none 0 0) 0 [], As.blk gx 137 [pg gc, .slice V i.vars.length vc, .slice none 0 0, .slice none 0 0, .slice A fired.length cf, AA ((0 : Nat) : Int)], As.blk g14 50 [AA 0, str [], .int .u8 0, .slice none 0 0, .slice none 0 0, AA 0, .slice none 0 0], As.blk g8 33 (In.cells i V T vc tc), As.own bf 9 1 (.slice A fired.length cf) fired.length (AB BK fired), As.own bk 56 9 (.slice K kept.length kc) kept.length (AB Tk.cells kept)] w3 := M
 refine AG rfl (sx_seq (AC rfl (DP rfl rfl (AG rfl (sx_block ?_)))))
 obtain ⟨F3, M⟩ := Mem.closeMo (on := []) (n1 := 0) (dn := []) (n2 := 0) (cm := 0) (M.pk [2, 0, 1, 5, 3, 4, 6])
 refine flp [29, 28, 16, 14, 8, 6, 5, 3, 2] (fun ze e wr mz => ∃ (j : Nat) (on1 : List Ar) (cm1 : Nat) (F1 : List Nat), e = (30, AA (j : Int)) :: ze ∧ Mem w (fun k => k ∈ F0) [As.mo gc V i.vars.length vc gx (⟨on1, ([] : List Ar), fired, cm1⟩ : Mo) F1, As.blk g14 50 [AA 0, str [], .int .u8 0, .slice none 0 0, .slice none 0 0, AA 0, .slice none 0 0], As.blk g8 33 (In.cells i V T vc tc), As.own bk 56 9 (.slice K kept.length kc) kept.length (AB Tk.cells kept)] wr ∧ (j ≤ kept.length) ∧ (on1 = JJ 0 (kept.take j)) ∧ (cm1 = on1.length ∧ on1.length ≤ j) ∧ mz = kept.length - j) ⟨0, [], 0, _, rfl, M, Nat.zero_le _, rfl, ⟨rfl, Nat.le_refl _⟩, rfl⟩ ?_
 rintro _ w4 _ ⟨j, on1, cm1, F1, rfl, M, hj, hE, hcm, rfl⟩
 refine srg (BM rfl rfl (nq (sx_seq (AF rfl (fun h31 => ?_) (fun h31 => ?_)))))
 ·have h31p := (odt h31)
  refine sx_skip (qx_seq (sx_seq (sx_block (srg ?_))))
  obtain ⟨y, hy⟩ := BZ (l := kept) (i := j) A0
  obtain ⟨b_y, o_y, hA_y⟩ := B7 (k := 9) A0 (M.rdOwn 3 rfl) hy
  refine ya rfl (AP j hA_y rfl rfl rfl (sl rfl) A0) (ya rfl (AH rfl rfl (BB Tk.len (M.rdOwn 3 rfl) hA_y hy) underlying56 rfl B1) (CO M rfl EP fun g18 w5 hg18 M => C2 M 0 rfl rfl B1 rfl fun w6 M => nq (AC rfl (B2 M 0 rfl rfl rfl (ya rfl (CS rfl rfl rfl) (nq (AF rfl (fun h36 => ?_) (fun h36 => ?_))))))))
  ·have h36p := (odt h36)
   refine AC rfl (AV rfl rfl ?_)
   have M := M.pk [1, 0, 2, 3, 4]
   obtain ⟨x6, M⟩ := Mem.openMo M
   replace M : Mem w (fun k => k ∈ F0) [As.blk gx 137 [pg gc, .slice V i.vars.length vc, .slice x6.A on1.length x6.a, .slice x6.B (([] : List Ar).length) x6.b, .slice x6.C fired.length x6.c, AA (cm1 : Int)], As.own 0 139 5 (.slice x6.A on1.length x6.a) on1.length (AB Ar.cells on1), As.own 0 139 5 (.slice x6.B ([] : List Ar).length x6.b) (([] : List Ar).length) (AB Ar.cells ([] : List Ar)), As.own 0 9 1 (.slice x6.C fired.length x6.c) fired.length (AB BK fired), As.blk g18 56 (Tk.cells y), As.blk g14 50 [AA 0, str [], .int .u8 0, .slice none 0 0, .slice none 0 0, AA 0, .slice none 0 0], As.blk g8 33 (In.cells i V T vc tc), As.own bk 56 9 (.slice K kept.length kc) kept.length (AB Tk.cells kept)] w6 := M
   refine B2 M 0 rfl rfl rfl (C1 rfl rfl (AV rfl rfl (gp1 M 0 rfl rfl rfl FW fun w7 M => nq (EG 19 (fun w' => Mem w (fun k => k ∈ F0) [As.blk gx 137 [pg gc, .slice V i.vars.length vc, .slice x6.A on1.length x6.a, .slice x6.B (([] : List Ar).length) x6.b, .slice x6.C fired.length x6.c, AA ((cm1 + 1 : Nat) : Int)], As.own 0 139 5 (.slice x6.B ([] : List Ar).length x6.b) (([] : List Ar).length) (AB Ar.cells ([] : List Ar)), As.own 0 9 1 (.slice x6.C fired.length x6.c) fired.length (AB BK fired), As.blk g18 56 (Tk.cells y), As.blk g14 50 [AA 0, str [], .int .u8 0, .slice none 0 0, .slice none 0 0, AA 0, .slice none 0 0], As.blk g8 33 (In.cells i V T vc tc), As.own bk 56 9 (.slice K kept.length kc) kept.length (AB Tk.cells kept)] w') CL ?_))))
   have M := M.drew
   refine oc 0 19 rfl rfl (M.pk [0, 2, 3, 4, 5, 6, 7]) (oc 1 19 rfl rfl (M.pk [0, 2, 3, 4, 5, 6, 7]) (oc 2 19 rfl rfl (M.pk [0, 2, 3, 4, 5, 6, 7]) (oc 3 19 rfl rfl (M.pk [0, 2, 3, 4, 5, 6, 7]) (ol 4 19 rfl rfl rfl (M.pk [0, 2, 3, 4, 5, 6, 7]) (fun _ M => (M.cell 0 rfl rfl)) (oc 5 19 rfl rfl (M.pk [0, 2, 3, 4, 5, 6, 7]) (ol 6 19 rfl rfl rfl (M.pk [0, 2, 3, 4, 5, 6, 7]) (fun _ M => (M.cell 3 rfl rfl)) (oc 7 19 rfl rfl (M.pk [0, 2, 3, 4, 5, 6, 7]) (oc 8 19 rfl rfl (M.pk [0, 2, 3, 4, 5, 6, 7]) (oc 9 19 rfl rfl (M.pk [0, 2, 3, 4, 5, 6, 7]) (ol 10 19 rfl rfl rfl (M.pk [0, 2, 3, 4, 5, 6, 7]) (fun _ M => (M.cell 0 rfl rfl)) (oc 11 19 rfl rfl (M.pk [0, 2, 3, 4, 5, 6, 7]) (ol 12 19 rfl rfl rfl (M.pk [0, 2, 3, 4, 5, 6, 7]) (fun _ M => (M.cell 3 rfl rfl)) (oc 13 19 rfl rfl (M.pk [0, 2, 3, 4, 5, 6, 7]) (ol 14 19 rfl rfl rfl (M.pk [0, 2, 3, 4, 5, 6, 7]) (fun _ M => (M.cell 3 rfl rfl)) (oa 15 19 rfl rfl (M.pk [0, 2, 3, 4, 5, 6, 7]) (fun _ M => E1 rfl rfl rfl) ?_)))))))))))))))
   refine oa 16 19 rfl rfl (M.pk [0, 2, 3, 4, 5, 6, 7]) (fun _ M => AY (parts := [(0, _), (1, _), (2, _), (4, _)]) rfl rfl (JU _ _ _ _)) (AR 17 (some 61) gkr rfl (wn_none rfl) rfl rfl (fun ρ hρ => CM [.agg #[str y.on, AA ((cm1 + 1 : Nat) : Int), AA y.id, str [], .bool (!decide ((y.inc.toNat : Int) = 0))]] _ hρ rfl rfl rfl rfl underlying135 HG AU AU (EZ rfl)) ?_)
   rintro _ w8 ⟨g61, rfl, hg61, hq61, hb61, hfw8⟩
   replace hb61 : Blk w8 g61 139 ([str y.on, AA ((cm1 + 1 : Nat) : Int), AA y.id, str [], .bool (!decide ((y.inc.toNat : Int) = 0))]) := hb61
   refine ⟨fun _ => (M.pk [0, 2, 3, 4, 5, 6, 7]).step hfw8, ?_⟩
   have M := M.push hfw8 _ hb61 (DF hg61 hq61)
   replace M : Mem w (fun k => k ∈ F0) (As.blk g61 139 ([str y.on, AA ((cm1 + 1 : Nat) : Int), AA y.id, str [], .bool (!decide ((y.inc.toNat : Int) = 0))]) :: _) w8 := M
   refine AR 18 (some 62) gkr rfl (wn_none rfl) rfl rfl (fun ρ hρ => BV _ _ _ rfl 0 _ _ _ _ underlying135 EB rfl AU _ _ _ (hρ _ _ rfl) (M.own 2 rfl) _ _ _ _ (hρ _ _ rfl) (M.rdBlk 0 rfl rfl) (BG rfl) (by unfold maxLen; first | omega | (simp; omega)) CX (Nat.zero_le _)) ?_
   rintro v62 w9 ⟨ho62, hgr62, hvb62⟩
   replace ho62 : World.ownsRow w9 0 139 5 v62 ((on1 ++ [(⟨y.on, ((cm1 + 1 : Nat) : Int), y.id, [], (!decide ((y.inc.toNat : Int) = 0))⟩ : Ar)]).length) (AB Ar.cells (on1 ++ [(⟨y.on, ((cm1 + 1 : Nat) : Int), y.id, [], (!decide ((y.inc.toNat : Int) = 0))⟩ : Ar)])) := by rw [show ((on1 ++ [(⟨y.on, ((cm1 + 1 : Nat) : Int), y.id, [], (!decide ((y.inc.toNat : Int) = 0))⟩ : Ar)]).length) = on1.length + 1 from by simp, show (AB Ar.cells (on1 ++ [(⟨y.on, ((cm1 + 1 : Nat) : Int), y.id, [], (!decide ((y.inc.toNat : Int) = 0))⟩ : Ar)])) = (AB Ar.cells on1) ++ [str y.on, AA ((cm1 + 1 : Nat) : Int), AA y.id, str [], .bool (!decide ((y.inc.toNat : Int) = 0))] from by first | exact AT _ _ _ | simp [AB, Ar.cells]]; exact ho62
   have M := M.appOwn 2 rfl ho62 hgr62 hvb62
   obtain ⟨A62, c62, rfl, _⟩ := CC ho62
   refine ⟨fun _ => (M.pk [1, 3, 4, 5, 6, 7, 8]), fo1 19 rfl rfl (yp rfl) (fo1 20 rfl rfl (yp rfl) (AR 21 none gkr rfl (wn_none rfl) rfl rfl (fun ρ hρ => CQ 135 _ _ rfl gx 2 137 _ (.slice A62 ((on1 ++ [(⟨y.on, ((cm1 + 1 : Nat) : Int), y.id, [], (!decide ((y.inc.toNat : Int) = 0))⟩ : Ar)]).length) c62) (hρ _ _ rfl) (hρ _ _ rfl) rfl (M.blk 1 rfl) ER (BR rfl) rfl) ?_))⟩
   rintro _ w10 ⟨rfl, hbw10, hfw10⟩
   replace M : Mem w (fun k => k ∈ F0) (List.set _ 1 (As.blk gx 137 [pg gc, .slice V i.vars.length vc, .slice A62 ((on1 ++ [(⟨y.on, ((cm1 + 1 : Nat) : Int), y.id, [], (!decide ((y.inc.toNat : Int) = 0))⟩ : Ar)]).length) c62, .slice x6.B (([] : List Ar).length) x6.b, .slice x6.C fired.length x6.c, AA ((cm1 + 1 : Nat) : Int)])) w10 := M.putB 1 rfl hbw10 hfw10
   refine ⟨fun h => absurd h AU, fdn (qx_block_normal (qx_seq (sx_region (C1 rfl rfl (yb rfl (sxl_nil ?_))))))⟩
   obtain ⟨F8, M⟩ := Mem.closeMo (M.pk [1, 2, 3, 4, 0, 5, 6, 7, 8])
   refine fag ⟨j + 1, on1 ++ [(⟨y.on, ((cm1 + 1 : Nat) : Int), y.id, [], (!decide ((y.inc.toNat : Int) = 0))⟩ : Ar)], cm1 + 1, F8, rfl, (M.pk [0, 3, 4, 5]), ?_, ?_, ?_, rfl⟩
   ·omega
   ·rw [AJ hy]
    first
     | rw [XI h36p, Nat.zero_add, ← hE, hcm.1]
     | rw [aU h36p, ← hE]
   ·first
     | exact ⟨hcm.1, by omega⟩
     | exact ⟨by simp [hcm.1], by simp; omega⟩
  ·have h36p := (odf h36)
   refine sx_skip (qx_block_normal (qx_seq (sx_region (C1 rfl rfl (yb rfl (sxl_nil (fag ⟨j + 1, on1, cm1, F1, rfl, (M.pk [1, 2, 3, 4]), ?_, ?_, ?_, rfl⟩)))))))
   ·omega
   ·rw [AJ hy]
    first
     | rw [XI h36p, Nat.zero_add, ← hE, hcm.1]
     | rw [aU h36p, ← hE]
   ·first
     | exact ⟨hcm.1, by omega⟩
     | exact ⟨by simp [hcm.1], by simp; omega⟩
 ·have h31p := (odf h31)
  refine sx_exit (qx_then_exit (qx_then_exit ?_))
  obtain rfl : j = kept.length := by omega
  rw [List.take_length] at hE
  have hol := hcm.2
  refine qx_block_hit (qx_seq (AC rfl (yb rfl (cl 68 rfl (AE rfl rfl call53) (iF gc V i.vars.length vc gx (⟨on1, ([] : List Ar), fired, cm1⟩ : Mo) F1 flow _ (by first | omega | (simp; omega) | (simp [List.length_eraseIdx]; split <;> omega)) (by first | omega | (simp; omega) | (simp [List.length_eraseIdx]; split <;> omega)) (M.ok 0 _ rfl)) ?_))))
  rintro _ w11 ⟨rfl, F9, hNw11, hqw11, hfw11⟩
  refine ⟨_, rfl, ?_⟩
  have M := M.updMo 0 rfl (σ' := (⟨on1 ++ [(⟨flow, ((cm1 + 1 : Nat) : Int), 0, [], false⟩ : Ar)], ([] : List Ar), fired, cm1 + 1⟩ : Mo)) hNw11 hqw11 hfw11
  refine nq (sx_seq (AC rfl ?_))
  have hIv : Iv c (⟨on1 ++ [(⟨flow, ((cm1 + 1 : Nat) : Int), 0, [], false⟩ : Ar)], ([] : List Ar), fired, cm1 + 1⟩ : Mo) := jQ hE hcm.1 hkF hflow hk hol
  refine cl 70 rfl (AE rfl rfl call54) (n0 we m gc c Fc V vc gx i.vars (⟨on1 ++ [(⟨flow, ((cm1 + 1 : Nat) : Int), 0, [], false⟩ : Ar)], ([] : List Ar), fired, cm1 + 1⟩ : Mo) F9 _ R hC (D4 hwe M.fr hFe) (moF M 0 rfl hFe hwe.size) (M.ok 0 _ rfl) hIv hfi hps) ?_
  rintro _ w12 ⟨er, σ', rfl, ⟨F9, hN9, hq9, hf9⟩, hRn, hIv9, hf9l, hres⟩
  refine ⟨_, rfl, ?_⟩
  obtain ⟨on3, dn3, fi3, cm3⟩ := σ'
  have M := M.updMo 0 rfl (σ' := (⟨on3, dn3, fi3, cm3⟩ : Mo)) hN9 hq9 hf9
  rw [hcm.1, hE] at hRn
  refine AG rfl (AC rfl (FT rfl rfl (nq (AF rfl (fun h72 => ?_) (fun h72 => ?_)))))
  ·refine srg (ya rfl (AY (parts := []) rfl rfl (JH)) (yb rfl (C2 M 1 rfl rfl CD rfl fun w13 M => yb rfl (gnr (qx_then_ret (E3 rfl rfl (M.rdBlk 1 rfl rfl) underlying50 rfl CD rfl ?_))))))
   have he : er = 3 ∧ _ := hres.elim (fun h => by rw [h.1] at h72; cases h72) id
   rw [he.1]
   exact ⟨M.fr, fun _ _ => .inl ⟨rfl, .inl ⟨_, hRn, he.2⟩⟩⟩
  ·have h72p := (odt (BJ h72))
   refine sx_skip (qx_seq (srg ?_))
   iterate 4 refine yb rfl ?_
   refine cl 80 rfl (AE rfl rfl call55) (W3 m gc c Fc V i.vars.length vc gx (⟨on3, dn3, fi3, cm3⟩ : Mo) F9 K kc kept next clock _ hIv9 hf9l A0 hn1 hn2 (hC.fr0 (D4 hwe M.fr hFe)) (M.ok 0 _ rfl) (M.rdOwn 3 rfl) hS (hQ _ hRn)) ?_
   rintro _ w14 ⟨ls, hpl, hfw14, A', c', L', nx, er2, rfl, how14, hres2⟩
   refine ⟨_, rfl, ?_⟩
   have M := M.pushOwn hfw14 (Nat.le_refl _) how14
   iterate 7 refine yb rfl ?_
   refine nq (sx_seq (AC rfl (FT rfl rfl (nq (AF rfl (fun h85 => ?_) (fun h85 => ?_))))))
   ·refine srg (ya rfl (AY (parts := []) rfl rfl (JH)) (yb rfl (C2 M 2 rfl rfl CD rfl fun w15 M => yb rfl (gnr (qx_then_ret (E3 rfl rfl (M.rdBlk 2 rfl rfl) underlying50 rfl CD rfl ?_))))))
    have he : er2 = 3 ∧ _ := hres2.elim id (fun h => by rw [h.1] at h85; cases h85)
    obtain ⟨_, hrst⟩ : er = 0 ∧ Z2 c (⟨on3, dn3, fi3, cm3⟩ : Mo) := hres.elim id (fun h => by rw [h.1] at h72; cases h72)
    rw [he.1]
    exact ⟨M.fr, fun _ _ => .inl ⟨rfl, .inr ⟨_, ls, hRn, hrst, hpl, he.2⟩⟩⟩
   ·have h85p := (odt (BJ h85))
    refine sx_skip (qx_seq (AC rfl (B2 M 3 rfl rfl rfl (cl 90 rfl (AE rfl rfl call56) (aQ V vc i.vars _ A0 (hV.fr0 (D4 hwe M.fr hFe))) ?_))))
    rintro _ w16 ⟨A90, c90, rfl, how16, hfw16⟩
    refine ⟨_, rfl, ?_⟩
    have M := M.pushOwn hfw16 (Nat.le_refl _) how16
    refine AV rfl rfl (gp1 M 4 rfl rfl rfl GM fun w17 M => yb rfl (gp1 M 4 rfl rfl rfl HZ fun w18 M => yb rfl (gp1 M 4 rfl rfl rfl JK fun w19 M => nq (sx_seq (AC rfl ?_)))))
    refine DP rfl rfl (C7 rfl rfl (nq (AF rfl (fun h97 => ?_) (fun h97 => ?_))))
    ·refine sx_region (yb rfl (gp1 M 4 rfl rfl rfl JK fun w20 M => nq (sx_seq (DL 7 CL gkr ?_))))
     have M := M.drew
     refine sa rfl (AH (xs := [AA i.id, str i.mdl, .int .u8 2, .slice A90 i.vars.length c90, .slice A' L'.length c']) rfl rfl (M.rdBlk 4 rfl rfl) underlying33 rfl CH) ?_
     iterate 4 refine sb rfl ?_
     have M := M.pk [2, 0, 1, 3, 4, 5]
     obtain ⟨x10, M⟩ := Mem.openMo M
     replace M : Mem w (fun k => k ∈ F0) [As.blk gx 137 [pg gc, .slice V i.vars.length vc, .slice x10.A on3.length x10.a, .slice x10.B dn3.length x10.b, .slice x10.C fi3.length x10.c, AA (cm3 : Int)], As.own 0 139 5 (.slice x10.A on3.length x10.a) on3.length (AB Ar.cells on3), As.own 0 139 5 (.slice x10.B dn3.length x10.b) dn3.length (AB Ar.cells dn3), As.own 0 9 1 (.slice x10.C fi3.length x10.c) fi3.length (AB BK fi3), As.own w.heap.size 103 5 (.slice A90 i.vars.length c90) i.vars.length (AB Bd.cells i.vars), As.own w.heap.size 56 9 (.slice A' L'.length c') L'.length (AB Tk.cells L'), As.blk g14 50 [AA 0, str [], .int .u8 0, .slice none 0 0, .slice none 0 0, AA 0, .slice none 0 0], As.blk g8 33 [AA i.id, str i.mdl, .int .u8 2, .slice A90 i.vars.length c90, .slice A' L'.length c'], As.own bk 56 9 (.slice K kept.length kc) kept.length (AB Tk.cells kept)] w20.drew := M
     refine GZ M 0 rfl rfl rfl (sa rfl (AY (parts := [(0, _), (1, _), (2, _)]) rfl rfl (I2 _ _ _ _ _ _ _ _ _)) (CB (C2 M 6 rfl rfl CD rfl fun w21 M => yb rfl (gnr (E3 rfl rfl (M.rdBlk 6 rfl rfl) underlying50 rfl CD rfl ?_)))))
     obtain ⟨he1, hrst⟩ : er = 0 ∧ Z2 c (⟨on3, dn3, fi3, cm3⟩ : Mo) := hres.elim id (fun h => by rw [h.1] at h72; cases h72)
     obtain ⟨hle, rfl, rfl⟩ : next + ((ls.filter (fun a : Ar => !decide (0 < a.rests))).length : Int) ≤ 2147483647 ∧ L' = JM c kept ls next clock ∧ nx = next + ((ls.filter (fun a : Ar => !decide (0 < a.rests))).length : Int) := hres2.elim (fun h => by rw [h.1] at h85; cases h85) (fun h => h.2)
     refine ⟨M.fr, fun w2 hw2 => .inr ⟨(⟨on3, dn3, fi3, cm3⟩ : Mo), ls, A90, c90, A', c', x10.C, x10.c, ?_, hRn, ⟨hIv9, hf9l⟩, hrst, hpl, hle, M.rdAgr 4 rfl hw2, M.rdAgr 5 rfl hw2, M.rdAgr 3 rfl hw2⟩⟩
     rw [rB, if_pos h97]
    ·refine sx_skip (qx_seq (sx_seq (DL 7 CL gkr ?_)))
     have M := M.drew
     refine sa rfl (AH (xs := [AA i.id, str i.mdl, .int .u8 1, .slice A90 i.vars.length c90, .slice A' L'.length c']) rfl rfl (M.rdBlk 4 rfl rfl) underlying33 rfl CH) ?_
     iterate 4 refine sb rfl ?_
     have M := M.pk [2, 0, 1, 3, 4, 5]
     obtain ⟨x11, M⟩ := Mem.openMo M
     replace M : Mem w (fun k => k ∈ F0) [As.blk gx 137 [pg gc, .slice V i.vars.length vc, .slice x11.A on3.length x11.a, .slice x11.B dn3.length x11.b, .slice x11.C fi3.length x11.c, AA (cm3 : Int)], As.own 0 139 5 (.slice x11.A on3.length x11.a) on3.length (AB Ar.cells on3), As.own 0 139 5 (.slice x11.B dn3.length x11.b) dn3.length (AB Ar.cells dn3), As.own 0 9 1 (.slice x11.C fi3.length x11.c) fi3.length (AB BK fi3), As.own w.heap.size 103 5 (.slice A90 i.vars.length c90) i.vars.length (AB Bd.cells i.vars), As.own w.heap.size 56 9 (.slice A' L'.length c') L'.length (AB Tk.cells L'), As.blk g14 50 [AA 0, str [], .int .u8 0, .slice none 0 0, .slice none 0 0, AA 0, .slice none 0 0], As.blk g8 33 [AA i.id, str i.mdl, .int .u8 1, .slice A90 i.vars.length c90, .slice A' L'.length c'], As.own bk 56 9 (.slice K kept.length kc) kept.length (AB Tk.cells kept)] w19.drew := M
     refine GZ M 0 rfl rfl rfl (sa rfl (AY (parts := [(0, _), (1, _), (2, _)]) rfl rfl (I2 _ _ _ _ _ _ _ _ _)) (CB (C2 M 6 rfl rfl CD rfl fun w22 M => yb rfl (gnr (E3 rfl rfl (M.rdBlk 6 rfl rfl) underlying50 rfl CD rfl ?_)))))
     obtain ⟨he1, hrst⟩ : er = 0 ∧ Z2 c (⟨on3, dn3, fi3, cm3⟩ : Mo) := hres.elim id (fun h => by rw [h.1] at h72; cases h72)
     obtain ⟨hle, rfl, rfl⟩ : next + ((ls.filter (fun a : Ar => !decide (0 < a.rests))).length : Int) ≤ 2147483647 ∧ L' = JM c kept ls next clock ∧ nx = next + ((ls.filter (fun a : Ar => !decide (0 < a.rests))).length : Int) := hres2.elim (fun h => by rw [h.1] at h85; cases h85) (fun h => h.2)
     refine ⟨M.fr, fun w2 hw2 => .inr ⟨(⟨on3, dn3, fi3, cm3⟩ : Mo), ls, A90, c90, A', c', x11.C, x11.c, ?_, hRn, ⟨hIv9, hf9l⟩, hrst, hpl, hle, M.rdAgr 4 rfl hw2, M.rdAgr 5 rfl hw2, M.rdAgr 3 rfl hw2⟩⟩
     rw [rB, AS h97]
end Go.Proofs.YtaheakjfkpkefaaGreatDoor
