/- Lemmas that the last text rests on. Condition: each says its own. -/
import Derived.Test.YtaheakjfkpkefaaGreatDoorYRnd
set_option maxHeartbeats 16000000
set_option maxRecDepth 100000
namespace Go.Proofs.YtaheakjfkpkefaaGreatDoor
open Go.RowKit
open Tryz
def As.yl (J : List Ht → List Nat → World → Prop) (hJk : ∀ (hs : List Ht) (F : List Nat) (w w' : World), (∀ g ∈ F, g < w.heap.size → w'.heap[g]? = w.heap[g]?) → J hs F w → J hs F w') (hs : List Ht) (F : List Nat) : As := ⟨F, J hs F, fun h hb => hJk hs F _ _ h hb⟩
theorem Mem.one2 {J : List Ht → List Nat → World → Prop} {hJk : ∀ (hs : List Ht) (F : List Nat) (w w' : World), (∀ g ∈ F, g < w.heap.size → w'.heap[g]? = w.heap[g]?) → J hs F w → J hs F w'} {hs : List Ht} {F : List Nat} {w : World} (h : J hs F w) (hF : ∀ g ∈ F, g < w.heap.size) : Mem w (fun k => k ∈ F) [As.yl J hJk hs F] w where
 fr := Fr.refl
 ok i a hi := by
  cases i with
  | zero => simp only [List.getElem?_cons_zero, Option.some.injEq] at hi; subst hi; exact h
  | succ i => simp at hi
 lt i a hi g hg := by
  cases i with
  | zero => simp only [List.getElem?_cons_zero, Option.some.injEq] at hi; subst hi; exact ⟨hF g hg, .inr hg⟩
  | succ i => simp at hi
 apart i j a b hi hj hne := by
  cases i <;> cases j <;> simp at hi hj <;> omega
structure HIn (w : World) (A : Option Addr) (cp : Nat) (l : List Pa) (gl ga : Nat) (fa : FuncId) (gm : Nat) : Prop where
 pts : Pts w A l
 lay : Lay0 w
 gl : Blk w gl 29 [.slice A l.length cp]
 ga : Blk w ga 75 [.func (.func fa) #[] #[.pointer (some ⟨gm, 0, none⟩)]]
theorem mZ {l : List Pa} {ss : List St} {i : Nat} {s : St} (hp : SsP l ss) (h : ss[i]? = some s) : ∃ k x, s.pl = ((k : Nat) : Int) ∧ l[k]? = some x ∧ runP x = true ∧ s.tk ∈ x.i.toks := by
 obtain ⟨k, x, h1, h2⟩ := R2 (hp.perm.mem_iff.1 (List.mem_of_getElem? h))
 exact ⟨k, x, by rw [h1, Nat.zero_add], h2⟩
theorem NT {x : Pa} {w : World} (hx : PaOk w x) (hr : runP x = true) : ∃ gc, x.p = some ⟨gc, 0, none⟩ ∧ CourseN w x.m gc x.c x.F ∧ GS x.m = true ∧ MdOk x.m := by
 rcases hx.cr with h | h
 ·rw [runP, h] at hr; cases hr
 ·exact h
theorem mE {x : Pa} {w : World} (hx : PaOk w x) (hr : runP x = true) (t : Tk) :
 Calls prog 45 #[.pointer x.p, .slice x.V x.i.vars.length x.vc, .agg t.cells.toArray] w fun e w' => ∃ A c', e = .returned (.tuple #[.slice A (D5 x.m x.c t x.i.vars).1.length c', AA (D5 x.m x.c t x.i.vars).2]) ∧ w'.ownsRow w.heap.size 72 5 (.slice A (D5 x.m x.c t x.i.vars).1.length c') (D5 x.m x.c t x.i.vars).1.length (AB Wt.cells (D5 x.m x.c t x.i.vars).1) ∧ Fr0 w w' := by
 obtain ⟨gc, h, hC, hn, ho⟩ := NT hx hr
 rw [h]
 exact fC x.m gc x.c x.F t x.V x.vc x.i.vars w ho hC (by have := hx.bd.len; omega) hx.V
theorem qF {x : Pa} {w : World} (hx : PaOk w x) (hr : runP x = true) (t : Tk) : (D5 x.m x.c t x.i.vars).1.length ≤ 20000 := by
 obtain ⟨gc, h, hC, hn, ho⟩ := NT hx hr
 have := T3 ho hC t
 unfold D5
 split
 ·exact Nat.zero_le _
 ·split
  ·exact Nat.zero_le _
  ·rw [List.length_map]; exact this
theorem OZ {α : Type} {p : α → Bool} : ∀ (l : List α) (i : Nat), (l.find? p = none ∧ ixJ (fun _ => p) i l = -1) ∨ ∃ j a, ixJ (fun _ => p) i l = ((i + j : Nat) : Int) ∧ l[j]? = some a ∧ l.find? p = some a
 | [], _ => .inl ⟨rfl, rfl⟩
 | x :: r, i => by
  by_cases h : p x = true
  ·exact .inr ⟨0, x, by rw [ixJ, if_pos h]; rfl, rfl, by rw [List.find?_cons_of_pos h]⟩
  ·rw [List.find?_cons_of_neg h, ixJ, if_neg h]
   rcases OZ r (i + 1) with h1 | ⟨j, a, h1, h2, h3⟩
   ·exact .inl h1
   ·exact .inr ⟨j + 1, a, by rw [h1]; congr 1; omega, h2, h3⟩
theorem jP {α : Type} {p : α → Bool} {l : List α} (h : 0 ≤ ixJ (fun (_ : Nat) => p) 0 l) : ∃ j a, ixJ (fun (_ : Nat) => p) 0 l = ((j : Nat) : Int) ∧ l[j]? = some a ∧ l.find? p = some a := by
 rcases OZ (p := p) l 0 with ⟨_, h1⟩ | ⟨j, a, h1, h2⟩
 ·omega
 ·exact ⟨j, a, by rw [h1, Nat.zero_add], h2⟩
theorem RK {α : Type} {p : α → Bool} {l : List α} (h : decide ((0 : Int) ≤ ixJ (fun (_ : Nat) => p) 0 l) = false) : l.find? p = none := by
 have h := odf h
 rcases OZ (p := p) l 0 with ⟨h1, _⟩ | ⟨j, a, h1, h2⟩
 ·exact h1
 ·omega
def GY (ap : Pa → Wt → Bool) (x : Pa) (s : St) : Option Ht := if (D5 x.m x.c s.tk x.i.vars).2 = 0 then ((D5 x.m x.c s.tk x.i.vars).1.find? (ap x)).map (fun wt => ⟨s.pl, s.tk.id, wt.via⟩) else none
def C6 (l : List Pa) (ap : Pa → Wt → Bool) (ss : List St) : List Ht := ss.filterMap fun s => (l[s.pl.toNat]?).bind fun x => GY ap x s
section
variable {ap : Pa → Wt → Bool} {x : Pa} {s : St}
theorem UW (h : (!decide ((D5 x.m x.c s.tk x.i.vars).2 = (0 : Int))) = true) : GY ap x s = none := if_neg (odf (BY h))
theorem RQ (h : (!decide ((D5 x.m x.c s.tk x.i.vars).2 = (0 : Int))) = false) (hf : (D5 x.m x.c s.tk x.i.vars).1.find? (ap x) = none) : GY ap x s = none := by rw [GY, if_pos (odt (BJ h)), hf]; rfl
theorem O7 {wt : Wt} (h : (!decide ((D5 x.m x.c s.tk x.i.vars).2 = (0 : Int))) = false) (hf : (D5 x.m x.c s.tk x.i.vars).1.find? (ap x) = some wt) : GY ap x s = some ⟨s.pl, s.tk.id, wt.via⟩ := by rw [GY, if_pos (odt (BJ h)), hf]; rfl
variable {l : List Pa} {ss ss' : List St} {go : Bool} {hs : List Ht} {k : Nat}
theorem MV (hk : s.pl = (k : Int)) (hx : l[k]? = some x) : C6 l ap (ss ++ [s]) = C6 l ap ss ++ (GY ap x s).toList := by
 have : (l[s.pl.toNat]?).bind (fun x => GY ap x s) = GY ap x s := by rw [hk, Int.toNat_natCast, hx]; rfl
 rw [C6, List.filterMap_append]
 congr 1
 rw [List.filterMap_cons, this]
 cases GY ap x s <;> rfl
theorem jX {i : Nat} {A : Option Addr} {w : World} {B : Prop} (hE : hs = C6 l ap (ss.take i) ∧ B) (hp : SsP l ss) (hP : Pts w A l) : hs.length ≤ 2400 := by
 have h1 : hs.length ≤ (ss.take i).length := by rw [hE.1]; exact List.length_filterMap_le _ _
 have h2 : (ss.take i).length ≤ ss.length := by rw [List.length_take]; omega
 have h3 := hp.perm.length_eq
 have h4 := R3 (l := l) (j := 0) fun x hx => (hP.ok x hx).tl
 have h5 := hP.len
 omega
theorem LZ (hE : hs = C6 l ap ss ∧ (go = true ∨ hs = [])) (ht : ss' = ss ++ [s]) (hk : s.pl = (k : Int)) (hx : l[k]? = some x) (hn : GY ap x s = none) : hs = C6 l ap ss' ∧ (go = true ∨ hs = []) := by
 rw [ht, MV hk hx, hn, ← hE.1]; exact ⟨(List.append_nil _).symm, hE.2⟩
theorem RP {h : Ht} (hE : hs = C6 l ap ss ∧ (go = true ∨ hs = [])) (ht : ss' = ss ++ [s]) (hk : s.pl = (k : Int)) (hx : l[k]? = some x) (hn : GY ap x s = some h) (hg : go = true) : hs ++ [h] = C6 l ap ss' ∧ (go = true ∨ hs ++ [h] = []) := by
 rw [ht, MV hk hx, hn, ← hE.1]; exact ⟨rfl, .inl hg⟩
variable {J : List Ht → List Nat → World → Prop} {hJk : ∀ (hs : List Ht) (F : List Nat) (w w' : World), (∀ g ∈ F, g < w.heap.size → w'.heap[g]? = w.heap[g]?) → J hs F w → J hs F w'} {F0 F1 : List Nat} {w w' : World} {Ls : List As} {e : Ending}
theorem dP (he : e = .returned (.tuple #[])) (hp : SsP l ss) (M : Mem w (fun k => k ∈ F0) Ls w') (i : Nat) (hi : Ls[i]? = some (As.yl J hJk hs F1)) (hE : hs = C6 l ap (ss.take ss.length) ∧ (go = true ∨ hs = [])) :
 e = .returned (.tuple #[]) ∧ ∃ (ss : List St) (hs : List Ht) (F' : List Nat), SsP l ss ∧ hs = (if go = true then C6 l ap ss else (C6 l ap ss).take 1) ∧ J hs F' w' ∧ Fr (fun k => k ∈ F0) w w' ∧ ∀ g ∈ F', g ∈ F0 ∨ (w.heap.size ≤ g ∧ g < w'.heap.size) := by
 rw [List.take_length] at hE
 refine ⟨he, ss, hs, F1, hp, ?_, M.ok i _ hi, M.fr, fun g hg => ?_⟩
 ·split
  ·exact hE.1
  ·rename_i hg
   rw [← hE.1, hE.2.resolve_left hg]; rfl
 ·have := M.lt i _ hi g hg
  exact this.2.symm.imp id fun h => ⟨h, this.1⟩
theorem dO {h : Ht} {q : Nat} (he : e = .returned (.tuple #[])) (hp : SsP l ss) (M : Mem w (fun k => k ∈ F0) Ls w') (i : Nat) (hi : Ls[i]? = some (As.yl J hJk (hs ++ [h]) F1)) (hE : hs = C6 l ap (ss.take q) ∧ (go = true ∨ hs = [])) (hs' : ss[q]? = some s) (hk : s.pl = ((k : Nat) : Int)) (hx : l[k]? = some x) (hn : GY ap x s = some h) (hg : go = false) :
 e = .returned (.tuple #[]) ∧ ∃ (ss : List St) (hs : List Ht) (F' : List Nat), SsP l ss ∧ hs = (if go = true then C6 l ap ss else (C6 l ap ss).take 1) ∧ J hs F' w' ∧ Fr (fun k => k ∈ F0) w w' ∧ ∀ g ∈ F', g ∈ F0 ∨ (w.heap.size ≤ g ∧ g < w'.heap.size) := by
 have h0 : hs = [] := hE.2.resolve_left (by rw [hg]; decide)
 refine ⟨he, ss, hs ++ [h], F1, hp, ?_, M.ok i _ hi, M.fr, fun g hg => ?_⟩
 ·rw [if_neg (by rw [hg]; decide), ← List.take_append_drop (q + 1) ss, C6, List.filterMap_append, AJ hs']
  have := MV (ap := ap) (ss := ss.take q) hk hx
  rw [hn, ← hE.1, h0] at this
  unfold C6 at this
  rw [this, h0]; rfl
 ·have := M.lt i _ hi g hg
  exact this.2.symm.imp id fun h => ⟨h, this.1⟩
end
theorem J6 (a0 : Int) (a1 : Int) (a2 : List UInt8) : prog.built 38 [(0, AA a0), (1, AA a1), (2, str a2)] = some #[AA a0, AA a1, str a2] := by kernel_rfl
theorem jY (ga gp : Nat) (fa : FuncId) (gm : Nat) (x : Pa) (wt : Wt) (b : Bool) (w : World) (hfa : ∀ (ar : Array Value) (w : World), (callFunc fa ar).run prog w = .ok (.enter fa ar) w) (hba : Blk w ga 75 [.func (.func fa) #[] #[pg gm]]) (hbp : Blk w gp 36 (Pa.cells x))
 (hask : ∀ w1, Fr0 w w1 → Calls prog fa #[.agg (Pa.cells x).toArray, .agg (Wt.cells wt).toArray, pg gm] w1 (BN w1 (.bool b))) :
 Calls prog 47 #[.agg (Wt.cells wt).toArray, pg ga, pg gp] w (BN w (.bool b)) := by
 refine BL func47 ntmps47 rfl fun M => srg (DD M rfl rfl fun g3 w1 hg3 M => AG rfl (srg (yl rfl rfl (Blk.c (hba.fr0 M.fr) 0 rfl) (ya rfl (AH (xs := [.pointer x.p, AA x.i.id, str x.i.mdl, .int .u8 (x.i.st.toNat : Int), .slice x.V x.i.vars.length x.vc, .slice x.T x.i.toks.length x.tc]) rfl rfl (DK (hbp.fr0 M.fr) 0 6 rfl rfl) underlying36 rfl EW) (DO M 0 rfl rfl underlying72 CA rfl (MC M 8 rfl (BC rfl rfl rfl hfa) (hask _ M.fr) fun w2 M => yb rfl (sxl_nil ?_)))))))
 exact qx_seq (sx_ret (gr1 rfl ⟨rfl, M.fr⟩))
theorem oM {α : Type} (cells : α → List Value) (hk : ∀ x, (cells x).length = 5) (A : Option Addr) (c : Nat) (l : List α) (hl : l.length ≤ 4611686018427387904) (f : FuncId) (cs : List Value) (p : Nat → α → Bool) (S : Nat → Prop) (J : Nat → World → Prop) (w : World) (hP : PredJ prog f cs (fun x => .agg (cells x).toArray) l p S J w) (hR : ∀ w1, Fr S w w1 → Rd w1 A (l.length * 5) (AB cells l)) (hJ : J 0 w) :
 Calls prog 46 #[.slice A l.length c, .func (.func f) #[] cs.toArray] w fun e w' => e = .returned (AA (ixJ p 0 l)) ∧ J (ixN p 0 l) w' ∧ Fr S w w' := by
 refine sx_enter (vs := [_, _]) func46 rfl ntmps46 rfl ?_
 have M : Mem w S [] w := Mem.nil w
 refine srg (AG rfl (sx_seq (AC rfl (DP rfl rfl (AG rfl (sx_block (MX M [7, 1, 0] (fun ze zF e wr mz => ∃ (i : Nat), e = (8, AA (i : Int)) :: ze ∧ zF wr ∧ (i ≤ l.length) ∧ (J i wr) ∧ (ixJ p 0 l = ixJ p i (l.drop i)) ∧ (ixN p 0 l = ixN p i (l.drop i)) ∧ mz = l.length - i) ⟨0, rfl, M, Nat.zero_le _, hJ, rfl, rfl, rfl⟩ ?_)))))))
 rintro _ w1 _ ⟨i, rfl, M, hi, hJ, hr, hn, rfl⟩
 refine srg (BM rfl rfl (nq (sx_seq (AF rfl (fun h9 => ?_) (fun h9 => ?_)))))
 ·have h9p := (odt h9)
  refine sx_skip (qx_seq (sx_seq (sx_block (AC rfl (AG rfl (AC rfl (AV rfl rfl ?_)))))))
  obtain ⟨x, hx⟩ := BZ (l := l) (i := i) A0
  obtain ⟨b_x, o_x, hA_x⟩ := B7 (k := 5) A0 (hR _ M.fr) hx
  refine ya rfl (AP i hA_x rfl rfl rfl (sl rfl) A0) (ya rfl (AH rfl rfl (BB hk (hR _ M.fr) hA_x hx) underlying72 rfl CA) (cl 16 rfl (BC rfl rfl rfl hP.fn) (hP.call i x _ hx M.fr hJ) ?_))
  rintro _ w9 ⟨rfl, hJ, hf9⟩
  refine ⟨_, rfl, ?_⟩
  have M : Mem w S [] w9 := Mem.ofFr (M.fr.trans hf9)
  refine nq (AF rfl (fun h16 => ?_) (fun h16 => ?_))
  ·exact AC rfl (yb rfl (gnr (qx_block_ret (qx_then_ret (qx_then_ret (qx_block_ret (qx_then_ret (gr1 rfl ⟨by rw [hr, B0 hx, ixJ, if_pos h16], by rw [hn, B0 hx, ixN, if_pos h16]; exact hJ, M.fr⟩))))))))
  ·refine sx_skip (qx_block_normal (qx_seq (sx_region (C1 rfl rfl (yb rfl (sxl_nil (fag ⟨i + 1, rfl, M, ?_, ?_, ?_, ?_, rfl⟩)))))))
   ·omega
   ·exact hJ
   ·rw [hr, B0 hx, ixJ, AS h16]
   ·rw [hn, B0 hx, ixN, AS h16]
 ·have h9p := (odf h9)
  refine sx_exit (qx_then_exit (qx_then_exit (qx_block_hit (qx_seq (AC rfl (gnr (gr1 rfl ?_)))))))
  obtain rfl : i = l.length := by omega
  exact ⟨by rw [hr, List.drop_length]; rfl, by rw [hn, List.drop_length]; exact hJ, M.fr⟩
theorem jZ (A : Option Addr) (cp : Nat) (l : List Pa) (gl ga : Nat) (fa : FuncId) (gm : Nat) (ap : Pa → Wt → Bool) (go : Bool) (lr : Nat) (J : List Ht → List Nat → World → Prop) (hJk : ∀ (hs : List Ht) (F : List Nat) (w w' : World), (∀ g ∈ F, g < w.heap.size → w'.heap[g]? = w.heap[g]?) → J hs F w → J hs F w') (F0 : List Nat) (w : World) (hJ : J [] F0 w) (hF0 : ∀ g ∈ F0, g < w.heap.size)
 (hfa : ∀ (ar : Array Value) (w : World), (callFunc fa ar).run prog w = .ok (.enter fa ar) w) (hPt : ∀ w1, Fr (fun k => k ∈ F0) w w1 → HIn w1 A cp l gl ga fa gm)
 (hask : ∀ x ∈ l, runP x = true → ∀ (wt : Wt) (w1 : World), Fr (fun k => k ∈ F0) w w1 → Calls prog fa #[.agg (Pa.cells x).toArray, .agg (Wt.cells wt).toArray, pg gm] w1 (BN w1 (.bool (ap x wt))))
 (hround : ∀ (hs : List Ht) (F : List Nat) (h : Ht) (w1 : World), hs.length ≤ 2400 → J hs F w1 → (go = true ∨ hs = []) → ∃ r, w1.heap[lr]? = some (.loop r) ∧ r.params.size = 1 ∧ RoundIn Fence.wide 2 prog lr r.fn ((r.params.zip [Value.agg (Ht.cells h).toArray].toArray).foldl (fun tmps (t, a) => tmps.setIfInBounds t a) r.tmps) r.assign r.body w1 (fun e w' => e = .returned (.bool go) ∧ ∃ F', J (hs ++ [h]) F' w' ∧ Fr (fun k => k ∈ F) w1 w' ∧ ∀ g ∈ F', g ∈ F ∨ (w1.heap.size ≤ g ∧ g < w'.heap.size))) :
 Calls prog 43 #[.func (.yield lr) #[] #[], pg gl, pg ga] w fun e w' => e = .returned (.tuple #[]) ∧ ∃ (ss : List St) (hs : List Ht) (F' : List Nat), SsP l ss ∧ hs = (if go = true then C6 l ap ss else (C6 l ap ss).take 1) ∧ J hs F' w' ∧ Fr (fun k => k ∈ F0) w w' ∧ ∀ g ∈ F', g ∈ F0 ∨ (w.heap.size ≤ g ∧ g < w'.heap.size) := by
 refine sx_enter (vs := [_, _, _]) func43 rfl ntmps43 rfl ?_
 have M : Mem w (fun k => k ∈ F0) [As.yl J hJk [] F0] w := Mem.one2 hJ hF0
 refine srg (yl rfl rfl (Blk.c ((hPt _ M.fr).gl) 0 rfl) (cl 11 rfl (AE rfl rfl call44) (bJ A cp l _ (hPt _ M.fr).pts (hPt _ M.fr).lay) ?_))
 rintro _ w1 ⟨ss, A', c', rfl, hpm, how1, hfw1⟩
 refine ⟨_, rfl, ?_⟩
 have M := M.pushOwn hfw1 (Nat.le_refl _) how1
 have hL11 := M.ownLen 0 rfl
 refine DP rfl rfl (AG rfl (sx_block (flp [12, 11, 2, 1, 0] (fun ze e wr mz => ∃ (i : Nat) (hz : List Ht) (F1 : List Nat), e = (13, AA (i : Int)) :: ze ∧ Mem w (fun k => k ∈ F0) [As.own w.heap.size 119 10 (.slice A' ss.length c') ss.length (AB St.cells ss), As.yl J hJk hz F1] wr ∧ (i ≤ ss.length) ∧ (hz = C6 l ap (ss.take i) ∧ (go = true ∨ hz = [])) ∧ mz = ss.length - i) ⟨0, [], F0, rfl, M, Nat.zero_le _, ⟨rfl, .inr rfl⟩, rfl⟩ ?_)))
 rintro _ w2 _ ⟨i, hz, F1, rfl, M, hi, hE, rfl⟩
 refine srg (BM rfl rfl (nq (sx_seq (AF rfl (fun h14 => ?_) (fun h14 => ?_)))))
 ·have h14p := (odt h14)
  refine sx_skip (qx_seq (sx_seq (sx_block (srg ?_))))
  obtain ⟨s, hs⟩ := BZ (l := ss) (i := i) A0
  obtain ⟨b_s, o_s, hA_s⟩ := B7 (k := 10) A0 (M.rdOwn 0 rfl) hs
  refine ya rfl (AP i hA_s rfl rfl rfl (sl rfl) A0) (ya rfl (AH rfl rfl (BB St.len (M.rdOwn 0 rfl) hA_s hs) underlying119 rfl BA) (CO M rfl TZ fun g5 w3 hg5 M => C2 M 0 rfl rfl BA rfl fun w4 M => EF (yl rfl rfl (Blk.c ((hPt _ M.fr).gl) 0 rfl) (yb rfl ?_))))
  obtain ⟨k, x, hk, hx, hrun, hmem⟩ := mZ hpm hs
  refine ya rfl (B9 rfl rfl (sc rfl) (show Cell _ g5 0 (AA ((k : Nat) : Int)) from hk ▸ M.cell 0 rfl rfl)) ?_
  have hkl : k < l.length := (List.getElem?_eq_some_iff.1 hx).1
  obtain ⟨b3_x, o3_x, hA3_x⟩ := B7 (k := 6) A0 ((hPt _ M.fr).pts.rd) hx
  refine ya rfl (AP k hA3_x rfl rfl rfl (sl rfl) A0) (ya rfl (AH rfl rfl (BB Pa.len ((hPt _ M.fr).pts.rd) hA3_x hx) underlying36 rfl EW) (CO M rfl MG fun g6 w5 hg6 M => C2 M 0 rfl rfl EW rfl fun w6 M => nq (AC rfl (B2 M 0 rfl rfl rfl (AV rfl rfl (B2 M 0 rfl rfl rfl (yb rfl ?_)))))))
  refine ya rfl (AH (xs := [AA s.tk.id, str s.tk.loc, str s.tk.on, AA s.tk.born, AA s.tk.tries, str s.tk.worker, AA s.tk.until_, .int .u8 (s.tk.inc.toNat : Int), AA s.tk.err]) rfl rfl (DK (M.blk 1 rfl) 1 9 rfl rfl) underlying56 rfl B1) (cl 30 rfl (AE rfl rfl call45) (mE ((hPt _ M.fr).pts.ok _ (List.mem_of_getElem? hx)) hrun s.tk) ?_)
  rintro _ w7 ⟨AW, cW, rfl, how7, hfw7⟩
  refine ⟨_, rfl, ?_⟩
  have M := M.pushOwn hfw7 (Nat.le_refl _) how7
  have hL30 := M.ownLen 0 rfl
  iterate 5 refine yb rfl ?_
  refine nq (sx_seq (AC rfl (FT rfl rfl (nq (AF rfl (fun h34 => ?_) (fun h34 => ?_))))))
  ·have h34p := (odf (BY h34))
   refine sx_exit (qx_then_exit (qx_block_hit (qx_seq (sx_region (C1 rfl rfl (yb rfl (sxl_nil (fag ⟨i + 1, hz, F1, rfl, (M.pk [3, 4]), ?_, ?_, rfl⟩))))))))
   ·omega
   ·first
     | exact LZ hE (AJ hs) hk hx (UW h34)
     | exact LZ hE (AJ hs) hk hx (RQ h34 (RK h40))
     | exact RP hE (AJ hs) hk hx (O7 h34 hfd) (by simpa using h55)
  ·have h34p := (odt (BJ h34))
   refine sx_skip (qx_seq (AC rfl (ya rfl (CE (us := []) (vs := [pg ga, pg g6]) rfl rfl rfl) ?_)))
   have hWl := qF ((hPt _ M.fr).pts.ok _ (List.mem_of_getElem? hx)) hrun s.tk
   refine cl 37 rfl (AE rfl rfl call46) (oM Wt.cells Wt.len AW cW (D5 x.m x.c s.tk x.i.vars).1 A0 47 [pg ga, pg g6] (fun (_ : Nat) (wt : Wt) => ap x wt) AM (fun _ _ => True) _ (G3 call47 (fun wt _ w9 hf9 => jY ga g6 fa gm x wt (ap x wt) w9 hfa (hPt _ (M.fr.then0 hf9)).ga ((M.blk 1 rfl).fr0 hf9) (fun w8 hf8 => hask x (List.mem_of_getElem? hx) hrun wt w8 ((M.fr.then0 hf9).then0 hf8)))) (fun _ hf9 => (M.rdOwn 0 rfl).fr0 hf9) trivial) ?_
   rintro _ w8 ⟨rfl, _, hfw8⟩
   refine ⟨AA (ixJ (fun (_ : Nat) (wt : Wt) => ap x wt) 0 (D5 x.m x.c s.tk x.i.vars).1), rfl, ?_⟩
   have M := M.step hfw8
   refine AG rfl (sx_seq (gD 15 CL gkr ?_))
   have M := M.drew
   refine sb rfl (sa rfl (GK rfl rfl rfl) (sb rfl (D6 (d := 40) rfl (fun h40 => ?_) (fun h40 => ?_))))
   ·have h40p := (odt h40)
    obtain ⟨j, wt, hj, hw, hfd⟩ := jP (by have := odt h40; omega)
    rw [hj]
    have hjl : j < (D5 x.m x.c s.tk x.i.vars).1.length := (List.getElem?_eq_some_iff.1 hw).1
    refine gsg rfl (yp rfl) (gsg rfl (yp rfl) (gsg rfl (B9 rfl rfl (sc rfl) (M.cell 2 rfl rfl)) (gsg rfl (yp rfl) (gsg rfl (yp rfl) (gsg rfl (B9 rfl rfl (sc rfl) (M.cell 2 rfl rfl)) (gsg rfl (yp rfl) (gsg rfl (yp rfl) ?_)))))))
    obtain ⟨b5_wt, o5_wt, hA5_wt⟩ := B7 (k := 5) A0 (M.rdOwn 0 rfl) hw
    refine gsg rfl (AP j hA5_wt rfl rfl rfl (sl rfl) A0) (gsg rfl (yp rfl) (gsg rfl (B9 rfl rfl (sc rfl) (E5 Wt.len (M.rdOwn 0 rfl) hA5_wt hw 0 rfl)) (gsg rfl (AY (parts := [(0, _), (1, _), (2, _)]) rfl rfl (J6 _ _ _)) (T7 ?_))))
    obtain ⟨r, hr, hps, hro⟩ := hround hz F1 (⟨s.pl, s.tk.id, wt.via⟩ : Ht) _ (jX hE hpm (hPt _ M.fr).pts) (M.ok 4 _ rfl) hE.2
    refine Sf.sxl_round (some 53) (Sf.wn_on rfl rfl rfl) rfl rfl rfl rfl rfl hr (by rw [hps]; rfl) hro ?_
    rintro _ w9 ⟨rfl, F2, hJ2, hfw9, hF2⟩
    refine ⟨_, rfl, ?_⟩
    have M := M.upd 4 rfl hfw9 (As.yl J hJk (hz ++ [(⟨s.pl, s.tk.id, wt.via⟩ : Ht)]) F2) hJ2 hF2
    refine Sf.sxl_y (Sf.wn_on rfl rfl rfl) rfl rfl (yp rfl) (Sf.sxl_y (Sf.wn_none rfl) rfl rfl (yp rfl) (ZI (qx_seq (AF rfl (fun h55 => ?_) (fun h55 => ?_)))))
    ·have h55p := (BY h55)
     exact sx_ret (qx_block_ret (qx_then_ret (qx_then_ret (qx_block_ret (qx_ret0 (Or.inl rfl) rfl (dO rfl hpm M 4 rfl hE hs hk hx (O7 h34 hfd) (by simpa using h55)))))))
    ·have h55p := (BJ h55)
     refine sx_skip (qx_block_normal (qx_seq (sx_region (C1 rfl rfl (yb rfl (sxl_nil (fag ⟨i + 1, (hz ++ [(⟨s.pl, s.tk.id, wt.via⟩ : Ht)]), F2, rfl, (M.pk [3, 4]), ?_, ?_, rfl⟩)))))))
     ·omega
     ·first
       | exact LZ hE (AJ hs) hk hx (UW h34)
       | exact LZ hE (AJ hs) hk hx (RQ h34 (RK h40))
       | exact RP hE (AJ hs) hk hx (O7 h34 hfd) (by simpa using h55)
   ·have h40p := (odf h40)
    iterate 12 refine D3 rfl rfl rfl rfl rfl rfl ?_
    refine T7 (Sf.sxl_off rfl rfl rfl rfl rfl rfl (Sf.sxl_off rfl rfl rfl rfl rfl rfl (Sf.sxl_y (Sf.wn_none rfl) rfl rfl (yp rfl) (ZI (qx_seq (sx_false rfl (sx_skip (qx_block_normal (qx_seq (sx_region (C1 rfl rfl (yb rfl (sxl_nil (fag ⟨i + 1, hz, F1, rfl, (M.pk [3, 4]), ?_, ?_, rfl⟩))))))))))))))
    ·omega
    ·first
      | exact LZ hE (AJ hs) hk hx (UW h34)
      | exact LZ hE (AJ hs) hk hx (RQ h34 (RK h40))
      | exact RP hE (AJ hs) hk hx (O7 h34 hfd) (by simpa using h55)
 ·have h14p := (odf h14)
  refine sx_exit (qx_then_exit (qx_then_exit ?_))
  obtain rfl : i = ss.length := by omega
  exact qx_block_hit (qx_ret0 (Or.inr rfl) rfl (dP rfl hpm M 1 rfl hE))
end Go.Proofs.YtaheakjfkpkefaaGreatDoor
