/- Lemmas that the last text rests on. Condition: each says its own. -/
import Derived.Test.YtaheakjfkpkefaaGreatDoorYSss
import Derived.LoopNIn
import Derived.TacticsIn
import Derived.OrdersIn
import Derived.RangeFuncCalls
import Derived.RangeFuncLeaves
import Derived.RangeFuncRecord
set_option maxHeartbeats 16000000
set_option maxRecDepth 100000
namespace Go.Proofs.YtaheakjfkpkefaaGreatDoor
open Go.RowKit
open Tryz
def gY (s : St) : Int := s.tk.id
structure SsP (l : List Pa) (ss : List St) : Prop where
 perm : ss.Perm (E2 l 0)
 st : Stf gY (E2 l 0) ss
 s : Srt gY ss 0 ss.length
theorem lE (a b : Int) : LJ a b < 0 ↔ a < b := by
 unfold LJ
 simp only [decide_true, Bool.not_true, Bool.false_eq_true, if_false, decide_eq_true_eq]
 split
 ·omega
 ·split <;> omega
theorem pG {x : Pa} {w : World} (hx : PaOk w x) (hp : x.p.isNone = false) (next k : Int) (hY : Lay0 w) :
 Calls prog 14 #[.pointer x.p, .agg (In.cells x.i x.V x.T x.vc x.tc).toArray, AA next, AA k] w (BN w (AA (if GC x.m x.c x.i next k = true then 0 else 1))) := by
 rcases hx.cr with h | ⟨gc, h, hC, hn, ho⟩
 ·rw [h] at hp; cases hp
 ·rw [h]
  exact lJ x.m gc x.c x.F x.i x.V x.T x.vc x.tc next k w ho hC (fun q => (rY (pQ hn) hC.cz q).2) (by have := hx.tl; omega) hx.bd hx.wk hx.V hx.T hY
theorem P9 (a0 : Int) (c1_0 c1_1 c1_2 c1_3 c1_4 c1_5 c1_6 c1_7 c1_8 : Value) : prog.built 119 [(0, AA a0), (1, .agg #[c1_0, c1_1, c1_2, c1_3, c1_4, c1_5, c1_6, c1_7, c1_8])] = some #[AA a0, c1_0, c1_1, c1_2, c1_3, c1_4, c1_5, c1_6, c1_7, c1_8] := by kernel_rfl
theorem SU : (prog.info? 119).map (fun i => (i.zero, i.size)) = some (some (.agg #[AA 0, AA 0, str [], str [], AA 0, AA 0, str [], AA 0, .int .u8 0, AA 0]), 10) := by kernel_rfl
theorem XV (a b : St) (w : World) : Calls prog 89 #[.agg a.cells.toArray, .agg b.cells.toArray] w (BN w (AA (LJ a.tk.id b.tk.id))) := by
 refine BL func89 ntmps89 rfl fun M => srg (DD M rfl rfl fun g2 w1 hg2 M => DD M rfl rfl fun g3 w2 hg3 M => AG rfl (AC rfl (yb rfl (B2 M 1 rfl rfl rfl (yb rfl ?_)))))
 exact yb rfl (B2 M 0 rfl rfl rfl (DV M 11 rfl rfl call90 (XD a.tk.id b.tk.id _) fun w3 M => yb rfl (gnr (gr1 rfl ⟨rfl, M.fr⟩))))
theorem VX (x : Pa) : ((x.p.isNone || (!decide ((x.i.st.toNat : Int) = 1))) || (!decide ((if GC x.m x.c x.i 2147483647 1099511627776 = true then 0 else 1) = (0 : Int)))) = !runP x := by
 unfold runP
 cases x.p <;> (by_cases h : (x.i.st.toNat : Int) = 1) <;> by_cases hc : GC x.m x.c x.i 2147483647 1099511627776 = true <;> simp [h, hc]
theorem W2 {x : Pa} (h : ((x.p.isNone || (!decide ((x.i.st.toNat : Int) = 1))) || (!decide ((if GC x.m x.c x.i 2147483647 1099511627776 = true then 0 else 1) = (0 : Int)))) = false) : runP x = true := by rw [VX] at h; simpa using h
theorem VW {x : Pa} (h : ((x.p.isNone || (!decide ((x.i.st.toNat : Int) = 1))) || (!decide ((if GC x.m x.c x.i 2147483647 1099511627776 = true then 0 else 1) = (0 : Int)))) = true) : ¬ runP x = true := by rw [VX] at h; simpa using h
theorem bJ (A : Option Addr) (cp : Nat) (l : List Pa) (w : World) (hP : Pts w A l) (hY : Lay0 w) :
 Calls prog 44 #[.slice A l.length cp] w fun e w' => ∃ ss A' c', e = .returned (.slice A' ss.length c') ∧ SsP l ss ∧ w'.ownsRow w.heap.size 119 10 (.slice A' ss.length c') ss.length (AB St.cells ss) ∧ Fr0 w w' := by
 have hlen := hP.len
 refine BL func44 ntmps44 rfl fun M => srg (AG rfl (srg (AG rfl (sx_seq (AC rfl (DP rfl rfl ?_))))))
 refine AG rfl (sx_block ?_)
 have M := M.nilOwn 119 10
 refine flp [9, 8] (fun ze e wr mz => ∃ (j : Nat) (acc : List St) (A3 : Option Addr) (c3 : Nat), e = (3, .slice A3 acc.length c3) :: (10, AA (j : Int)) :: ze ∧ Mem w AM [As.own w.heap.size 119 10 (.slice A3 acc.length c3) acc.length (AB St.cells acc)] wr ∧ (j ≤ l.length) ∧ (acc = E2 (l.take j) 0) ∧ (acc.length ≤ j * 300) ∧ mz = l.length - j) ⟨0, [], none, 0, rfl, M, Nat.zero_le _, rfl, Nat.le_refl _, rfl⟩ ?_
 rintro _ w1 _ ⟨j, acc, A3, c3, rfl, M, hj, hacc, hal, rfl⟩
 refine srg (BM rfl rfl (nq (sx_seq (AF rfl (fun h11 => ?_) (fun h11 => ?_)))))
 ·have h11p := (odt h11)
  refine sx_skip (qx_seq (sx_seq (sx_block (AC rfl ?_))))
  obtain ⟨x, hx⟩ := BZ (l := l) (i := j) A0
  obtain ⟨b_x, o_x, hA_x⟩ := B7 (k := 6) A0 ((hP.fr0 M.fr).rd) hx
  have htl_x := (hP.ok _ (List.mem_of_getElem? hx)).tl
  refine ya rfl (AP j hA_x rfl rfl rfl (sl rfl) A0) (ya rfl (AH rfl rfl (BB Pa.len ((hP.fr0 M.fr).rd) hA_x hx) underlying36 rfl EW) (CO M rfl MG fun g5 w2 hg5 M => yb rfl (C2 M 0 rfl rfl EW rfl fun w3 M => nq (sx_seq (AC rfl (B2 M 0 rfl rfl rfl (ya rfl (IC rfl rfl rfl (pt rfl)) (yb rfl ?_))))))))
  refine fvm M 5 [4, 5, 10, 9, 8, 3] [(23, .bool (x.p.isNone || (!decide ((x.i.st.toNat : Int) = 1))))] ?_ (fun k18 => ?_)
  ·intro w4 M
   refine yb rfl (fvm M 7 [4, 5, 10, 9, 8, 3] [(31, .bool ((x.p.isNone || (!decide ((x.i.st.toNat : Int) = 1))) || (!decide ((if GC x.m x.c x.i 2147483647 1099511627776 = true then 0 else 1) = (0 : Int)))))] ?_ (fun k24 => ?_))
   ·intro w5 M
    refine nq (AF rfl (fun h31 => ?_) (fun h31 => ?_))
    ·have h31p := ((E6 h31).imp (fun z => ((E6 z).imp (fun z => z) (fun z => (odf (BY z))))) (fun z => (odf (BY z))))
     refine sx_exit (qx_then_exit (qx_block_hit (qx_seq (sx_region (C1 rfl rfl (yb rfl (sxl_nil (fag ⟨j + 1, acc, A3, c3, rfl, (M.pk [1]), ?_, ?_, ?_, rfl⟩))))))))
     ·omega
     ·rw [PM hx, ← hacc]
      first
       | (rw [HD, if_neg (VW h31)]; simp; done)
       | (rw [hacc2, HD, if_pos (W2 h31)]; done)
       | exact hacc2
     ·first
       | omega
       | (simp; omega)
    ·have h31p := (And.intro (And.intro (BT (BT h31).1).1 (odt (BJ (BT (BT h31).1).2))) (odt (BJ (BT h31).2)))
     refine sx_skip (qx_seq (AC rfl (yb rfl (B2 M 0 rfl rfl rfl (DP rfl rfl (AG rfl (sx_block (flp [35, 34, 10, 9, 8, 4] (fun ze e wr mz => ∃ (k : Nat) (acc2 : List St) (A4 : Option Addr) (c4 : Nat), e = (3, .slice A4 acc2.length c4) :: (36, AA (k : Int)) :: ze ∧ Mem w AM [As.blk g5 36 (Pa.cells x), As.own w.heap.size 119 10 (.slice A4 acc2.length c4) acc2.length (AB St.cells acc2)] wr ∧ (k ≤ x.i.toks.length) ∧ (acc2 = acc ++ (x.i.toks.take k).map (fun t => ⟨(j : Int), t⟩)) ∧ (acc2.length ≤ j * 300 + k) ∧ mz = x.i.toks.length - k) ⟨0, acc, A3, c3, rfl, M, Nat.zero_le _, (List.append_nil _).symm, by omega, rfl⟩ ?_))))))))
     rintro _ w6 _ ⟨k, acc2, A4, c4, rfl, M, hk, hacc2, hal2, rfl⟩
     refine srg (BM rfl rfl (nq (sx_seq (AF rfl (fun h37 => ?_) (fun h37 => ?_)))))
     ·have h37p := (odt h37)
      refine sx_skip (qx_seq (sx_seq (sx_block (srg ?_))))
      obtain ⟨y, hy⟩ := BZ (l := x.i.toks) (i := k) A0
      obtain ⟨b_y, o_y, hA_y⟩ := B7 (k := 9) A0 (((hP.fr0 M.fr).ok _ (List.mem_of_getElem? hx)).T) hy
      refine ya rfl (AP k hA_y rfl rfl rfl (sl rfl) A0) (ya rfl (AH rfl rfl (BB Tk.len (((hP.fr0 M.fr).ok _ (List.mem_of_getElem? hx)).T) hA_y hy) underlying56 rfl B1) (CO M rfl EP fun g7 w7 hg7 M => C2 M 0 rfl rfl B1 rfl fun w8 M => nq (sx_region (AV rfl rfl (DO M 0 rfl rfl underlying56 B1 rfl (ya rfl (AY (parts := [(0, _), (1, _)]) rfl rfl (P9 _ _ _ _ _ _ _ _ _ _)) (CU M (wn_none rfl) rfl rfl [.agg #[AA (j : Int), AA y.id, str y.loc, str y.on, AA y.born, AA y.tries, str y.worker, AA y.until_, .int .u8 (y.inc.toNat : Int), AA y.err]] ([AA (j : Int), AA y.id, str y.loc, str y.on, AA y.born, AA y.tries, str y.worker, AA y.until_, .int .u8 (y.inc.toNat : Int), AA y.err]) rfl rfl rfl rfl underlying116 SU rfl rfl (EZ rfl) rfl fun g44 w9 hg44 M => DC (len' := (acc2 ++ [(⟨(j : Int), y⟩ : St)]).length) (xs' := AB St.cells (acc2 ++ [(⟨(j : Int), y⟩ : St)])) M 3 (wn_none rfl) rfl rfl rfl rfl rfl rfl (M.rdBlk 0 rfl rfl) underlying116 RL rfl AU (BG rfl) (Nat.le_refl _) (Nat.le_refl _) CX (by unfold maxLen; first | omega | (simp; omega)) (by simp) (by first | exact (AT _ _ _).symm | simp [AB, St.cells, Tk.cells]) ?_)))))))
      intro A45 c45 w10 M
      refine yb rfl (sxl_nil (qx_block_normal (qx_seq (sx_region (C1 rfl rfl (yb rfl (sxl_nil (fag ⟨k + 1, acc2 ++ [(⟨(j : Int), y⟩ : St)], A45, c45, rfl, (M.pk [2, 3]), ?_, ?_, ?_, rfl⟩))))))))
      ·omega
      ·rw [AJ hy, List.map_append, ← List.append_assoc, ← hacc2]; rfl
      ·first
        | omega
        | (simp; omega)
     ·have h37p := (odf h37)
      refine sx_exit (qx_then_exit (qx_then_exit ?_))
      obtain rfl : k = x.i.toks.length := by omega
      rw [List.take_length] at hacc2
      refine qx_block_hit (qx_block_normal (qx_seq (sx_region (C1 rfl rfl (yb rfl (sxl_nil (fag ⟨j + 1, acc2, A4, c4, rfl, (M.pk [1]), ?_, ?_, ?_, rfl⟩)))))))
      ·omega
      ·rw [PM hx, ← hacc]
       first
        | (rw [HD, if_neg (VW h31)]; simp; done)
        | (rw [hacc2, HD, if_pos (W2 h31)]; done)
        | exact hacc2
      ·first
        | omega
        | (simp; omega)
   refine AD (d := 24) rfl (fun h24 => ?_) (fun h24 => ?_)
   ·iterate 6 refine yo rfl ?_
    exact yb rfl (k24 M ⟨rfl, rfl, rfl, rfl, rfl, rfl, (by rw [h24]; rfl), trivial⟩)
   ·refine gyq rfl (C3 M 0 rfl rfl rfl (gyq rfl (yd rfl (AH (xs := [AA x.i.id, str x.i.mdl, .int .u8 (x.i.st.toNat : Int), .slice x.V x.i.vars.length x.vc, .slice x.T x.i.toks.length x.tc]) rfl rfl (DK (M.blk 0 rfl) 1 5 rfl rfl) underlying33 rfl CH) (sxl_call (some 29) (wn_on rfl rfl rfl) rfl rfl (AE rfl rfl call14) (pG ((hP.fr0 M.fr).ok _ (List.mem_of_getElem? hx)) (BT h24).1 2147483647 1099511627776 (hY.fr0 M.fr)) ?_))))
    rintro _ w11 ⟨rfl, hfw11⟩
    refine ⟨_, rfl, ?_⟩
    have M := M.step hfw11
    exact yd rfl (E1 rfl rfl rfl) (yb rfl (k24 M ⟨rfl, rfl, rfl, rfl, rfl, rfl, (by rw [h24]; rfl), trivial⟩))
  refine AD (d := 18) rfl (fun h18 => ?_) (fun h18 => ?_)
  ·iterate 4 refine yo rfl ?_
   exact yb rfl (k18 M ⟨rfl, rfl, rfl, rfl, rfl, rfl, (by rw [h18]; rfl), trivial⟩)
  ·exact gyq rfl (gyq rfl (C3 M 0 rfl rfl rfl (yd rfl (E1 rfl rfl rfl) (yb rfl (k18 M ⟨rfl, rfl, rfl, rfl, rfl, rfl, (by rw [h18]; rfl), trivial⟩)))))
 ·have h11p := (odf h11)
  refine sx_exit (qx_then_exit (qx_then_exit ?_))
  obtain rfl : j = l.length := by omega
  have hacc1 := hacc
  rw [List.take_length] at hacc1
  refine qx_block_hit (qx_seq (AC rfl (cl 49 rfl (AE rfl rfl call88) (gV w.heap.size A3 c3 acc.length 89 (fun a b => LJ a.tk.id b.tk.id) gY acc _ call89 (fun a b w => XV a b w) (fun a b => lE _ _) A0 rfl (M.own 0 rfl)) ?_)))
  rintro _ w12 ⟨rfl, ls, hpl, hst, how12, hfw12⟩
  refine ⟨_, rfl, ?_⟩
  have M := M.upd 0 rfl hfw12 (As.own _ 119 10 (.slice A3 acc.length c3) acc.length (AB St.cells ls)) how12 (fun g hg => .inl hg)
  have hll : ls.length = acc.length := hpl.length_eq
  rw [← hll] at M ⊢
  exact nq (AC rfl (yb rfl (gnr (gr1 rfl ⟨_, _, _, rfl, ⟨hacc1 ▸ hpl, hacc1 ▸ hst.1, hll ▸ hst.2⟩, M.own 0 rfl, M.fr⟩))))
section
def rF : Option Nat → Fence
 | none => Fence.wide
 | some l => Fence.wide.inRound l
theorem PP (rd : Option Nat) (f : FuncId) : (rF rd).fn f := by cases rd <;> trivial
theorem NW (rd : Option Nat) : (rF rd).depth = none := by cases rd <;> rfl
theorem W5 (rd : Option Nat) : (rF rd).round = rd := by cases rd <;> rfl
theorem Y7 (a : Act) (d : Option Tmp) (v : Value) : (a.put d v).defers = a.defers := by cases d <;> rfl
section
variable {P : Program} {rd : Option Nat} {w : World}
theorem SD {f : FuncId} {args : Array Value} {R : Ending → World → Prop} (h : Calls P f args w R) (k : Nat) : CallsIn (rF rd) k P f args w R := by
 cases rd with
 | none => exact callsIn_wide.2 h
 | some l => exact CallsIn.inRound l (callsIn_wide.2 h)
theorem i8 {l : Nat} {f : FuncId} {tmps : Array Value} {asg body : Code} {R : Ending → World → Prop} (h : RoundIn Fence.wide 2 P l f tmps asg body w R) (k : Nat) : RoundIn (rF rd) k P l f tmps asg body w R := by
 refine ⟨PP rd f, fun c cs _ => ?_⟩
 have := h.2 c cs (room_wide _)
 cases rd <;> exact this
end
theorem TX (w : World) (o : Obj) {r : Nat} (hr : r < w.heap.size) : (w.alloc o).heap[r]? = w.heap[r]? := by
 show (w.heap.push o)[r]? = _
 rw [Array.getElem?_push, if_neg A0]
end
end Go.Proofs.YtaheakjfkpkefaaGreatDoor
namespace Go.Proofs.YtaheakjfkpkefaaGreatDoor.Sf
open Go.RowKit
structure Agr (D : List Deferred) (n : Nat) (e : Env) (a : Act) : Prop where
 size : a.tmps.size = n
 defers : a.defers = D
 get : ∀ k v, e.get k = some v → a.tmps[k]? = some v
theorem Agr.eval {D : List Deferred} {n : Nat} {e : Env} {a : Act} (h : Agr D n e a) : Ag e a.eval := fun x v hx => by
 cases x with
 | tmp t => have := h.get t v hx; simp [Act.eval, this]
 | const c => injection hx
 | global g => injection hx
 | func f => injection hx
theorem Agr.weak {D : List Deferred} {n : Nat} {e r : Env} {a : Act} (h : Agr D n e a) (hl : r.le e) : Agr D n r a := ⟨h.size, h.defers, fun k v hk => h.get k v (Env.le_get hl k v hk)⟩
theorem Agr.put {D : List Deferred} {n : Nat} {e : Env} {a : Act} (h : Agr D n e a) {d : Nat} (hd : d < n) (v : Value) : Agr D n ((d, v) :: e) (a.put (some d) v) where
 size := by simp [Act.put, h.size]
 defers := by rw [Y7]; exact h.defers
 get k u hk := by
  simp only [Act.put]
  by_cases hkd : d = k
  ·subst hkd
   have : u = v := by simp [Env.get] at hk; exact hk.symm
   rw [this, Array.getElem?_setIfInBounds_self_of_lt (by rw [h.size]; exact hd)]
  ·rw [Array.getElem?_setIfInBounds_ne hkd]
   refine h.get k u ?_
   have hb : Nat.beq d k = false := by cases hq : Nat.beq d k with | false => rfl | true => exact absurd (Nat.eq_of_beq_eq_true hq) hkd
   simpa [Env.get, hkd, Ne.symm hkd, hb] using hk
theorem Agr.ins {D : List Deferred} {n : Nat} {e : Env} {a : Act} (h : Agr D n e a) {d : Option Tmp} (hd : IO n d = true) (v : Value) : Agr D n (e.ins d v) (a.put d v) := by
 cases d with
 | none => exact h
 | some d => exact h.put (BR hd) v
structure Sx (rd : Option Nat) (D : List Deferred) (P : Program) (c : Code) (Q : Exit → Act → World → Prop) (n : Nat) (e : Env) (w : World) : Prop where
 run : ∀ a, Agr D n e a → c.wpIn (rF rd) 2 P Q a w
structure SxL (rd : Option Nat) (D : List Deferred) (P : Program) (ops : Array Oper) (Q : Exit → Act → World → Prop) (n : Nat) (l : List Oper) (e : Env) (w : World) : Prop where
 run : ∀ a, Agr D n e a → wpListIn (rF rd) 2 P ops Q l a w
structure QX (D : List Deferred) (Q : Exit → Act → World → Prop) (x : Exit) (n : Nat) (e : Env) (w : World) : Prop where
 run : ∀ a, Agr D n e a → Q x a w
section
variable {rd : Option Nat} {D : List Deferred} {P : Program} {Q : Exit → Act → World → Prop} {n : Nat} {e : Env} {w : World}
theorem sx_seq {x y : Code} (h : Sx rd D P x (Exit.then (y.wpIn (rF rd) 2 P Q) Q) n e w) : Sx rd D P (Code.seq x y) Q n e w := ⟨fun a ha => wpIn_seq (h.run a ha)⟩
theorem sx_block {id : Nat} {c : Code} (h : Sx rd D P c (Exit.inBlock id Q) n e w) : Sx rd D P (Code.block id c) Q n e w := ⟨fun a ha => wpIn_block (h.run a ha)⟩
theorem sx_skip (h : QX D Q .normal n e w) : Sx rd D P Code.skip Q n e w := ⟨fun a ha => wpIn_skip (h.run a ha)⟩
theorem sx_exit {id : Nat} (h : QX D Q (.exit id) n e w) : Sx rd D P (Code.exit id) Q n e w := ⟨fun a ha => wpIn_exit (h.run a ha)⟩
theorem sx_ret (h : QX D Q .ret n e w) : Sx rd D P Code.ret Q n e w := ⟨fun a ha => wpIn_ret (h.run a ha)⟩
theorem sx_true {c : Operand} {x y : Code} (hc : ev e c = some (.bool true)) (h : Sx rd D P x Q n e w) : Sx rd D P (Code.cond c x y) Q n e w := ⟨fun a ha => wpIn_cond_true (ha.eval _ _ hc) (h.run a ha)⟩
theorem sx_false {c : Operand} {x y : Code} (hc : ev e c = some (.bool false)) (h : Sx rd D P y Q n e w) : Sx rd D P (Code.cond c x y) Q n e w := ⟨fun a ha => wpIn_cond_false (ha.eval _ _ hc) (h.run a ha)⟩
theorem sx_region {id : Nat} {l : List Oper} (h : SxL rd D P l.toArray Q n l e w) : Sx rd D P (Code.region id l.toArray false) Q n e w := ⟨fun a ha => wpIn_region_list (show wpListIn (rF rd) 2 P l.toArray Q l.toArray.toList a w from h.run a ha)⟩
theorem sxl_nil {ops : Array Oper} (h : QX D Q .normal n e w) : SxL rd D P ops Q n [] e w := ⟨fun a ha => wpListIn_nil (h.run a ha)⟩
theorem qx_seq {y : Code} {Q' : Exit → Act → World → Prop} (h : Sx rd D P y Q n e w) : QX D (Exit.then (y.wpIn (rF rd) 2 P Q) Q') .normal n e w := ⟨fun a ha => h.run a ha⟩
theorem qx_then_exit {K : Act → World → Prop} {id : Nat} (h : QX D Q (.exit id) n e w) : QX D (Exit.then K Q) (.exit id) n e w := ⟨fun a ha => h.run a ha⟩
theorem qx_then_ret {K : Act → World → Prop} (h : QX D Q .ret n e w) : QX D (Exit.then K Q) .ret n e w := ⟨fun a ha => h.run a ha⟩
theorem qx_block_normal {id : Nat} (h : QX D Q .normal n e w) : QX D (Exit.inBlock id Q) .normal n e w := ⟨fun a ha => h.run a ha⟩
theorem qx_block_ret {id : Nat} (h : QX D Q .ret n e w) : QX D (Exit.inBlock id Q) .ret n e w := ⟨fun a ha => h.run a ha⟩
theorem qx_block_hit {id : Nat} (h : QX D Q .normal n e w) : QX D (Exit.inBlock id Q) (.exit id) n e w := .mk fun a ha => by simp only [Exit.inBlock, if_true]; exact h.run a ha
def Wn (ops : Array Oper) (e : Env) (o : Oper) : Prop := ∀ D n a, Agr D n e a → Region.wanted o (yielded ops a.tmps) = true
theorem wn_none {ops : Array Oper} {o : Oper} (h : o.guard = none) : Wn ops e o := fun _ _ a _ => by simp [Region.wanted, h]
theorem wn_on {ops : Array Oper} {o : Oper} {j d : Nat} {b : Bool} (h : o.guard = some (j, b)) (hj : (ops[j]?).bind (·.dst) = some d) (hb : e.get d = some (.bool b)) : Wn ops e o := fun _ _ a ha => by
 simp [Region.wanted, h, yielded, hj, ha.get d _ hb]
theorem sxl_off {ops : Array Oper} {o : Oper} {rest : List Oper} {j d d' : Nat} {b c : Bool} (h : o.guard = some (j, b)) (hj : (ops[j]?).bind (·.dst) = some d) (hb : e.get d = some (.bool c)) (hne : (c == b) = false) (hd : o.dst = some d') (hn : Nat.blt d' n = true)
 (k : SxL rd D P ops Q n rest ((d', undef) :: e) w) : SxL rd D P ops Q n (o :: rest) e w := .mk fun a ha => by
 have hw : Region.wanted o (yielded ops a.tmps) = false := by
  simp only [Region.wanted, h, yielded, hj, ha.get d _ hb, Option.bind_some]
  cases c <;> cases b <;> simp_all
 unfold wpListIn
 rw [if_neg (by simp [hw]), hd]
 exact ⟨fun f _ => PP rd f, k.run _ (ha.put (BR hn) _)⟩
theorem sxl_y {ops : Array Oper} {o : Oper} {rest : List Oper} {d : Nat} {v : Value} (hw : Wn ops e o) (hd : o.dst = some d) (hn : Nat.blt d n = true) (hy : Y P e o w v)
 (k : SxL rd D P ops Q n rest ((d, v) :: e) w) (hnd : ∀ c, o.op ≠ .defer c := by intro c h; cases h) : SxL rd D P ops Q n (o :: rest) e w := .mk fun a ha => by
 unfold wpListIn
 rw [if_pos (hw D n a ha)]
 refine ⟨fun f _ => PP rd f, ?_⟩
 rw [Oper.semAt_eq _ _ _ hnd, hy _ ha.eval, Oper.uponIn_value, hd]
 exact k.run _ (ha.put (BR hn) v)
theorem sxl_does {ops : Array Oper} {o : Oper} {rest : List Oper} {R : Value → World → Prop} (d : Option Tmp) (hw : Wn ops e o) (hd : o.dst = d) (hn : IO n d = true) (hy : ∀ ρ, Ag e ρ → FM P ρ o w R)
 (k : ∀ v w', R v w' → SxL rd D P ops Q n rest (e.ins d v) w') (hnd : ∀ c, o.op ≠ .defer c := by intro c h; cases h) : SxL rd D P ops Q n (o :: rest) e w := .mk fun a ha => by
 unfold wpListIn
 rw [if_pos (hw D n a ha)]
 refine ⟨fun f _ => PP rd f, ?_⟩
 rw [Oper.semAt_eq _ _ _ hnd]
 obtain ⟨u, w', hr | ⟨hr, rfl⟩, hR⟩ := hy _ ha.eval
 ·rw [hr, Oper.uponIn_value, hd]; exact (k u w' hR).run _ (ha.ins hn u)
 ·rw [hr, Oper.uponIn_skip, hd]; exact (k _ w' hR).run _ (ha.ins hn _)
theorem sxl_call {ops : Array Oper} {o : Oper} {rest : List Oper} {f : FuncId} {args : Array Value} {R : Ending → World → Prop} (d : Option Tmp) (hw : Wn ops e o) (hd : o.dst = d) (hn : IO n d = true) (hy : YC P e o w f args) (hc : Calls P f args w R)
 (k : ∀ x w', R x w' → ∃ v, x = .returned v ∧ SxL rd D P ops Q n rest (e.ins d v) w') (hnd : ∀ c, o.op ≠ .defer c := by intro c h; cases h) : SxL rd D P ops Q n (o :: rest) e w := .mk fun a ha => by
 unfold wpListIn
 rw [if_pos (hw D n a ha)]
 refine ⟨fun f _ => PP rd f, ?_⟩
 rw [Oper.semAt_eq _ _ _ hnd, hy _ ha.eval, Oper.uponIn_enter]
 refine ⟨fun h => by rw [NW] at h; (cases h), (SD hc 1).mono fun x w' hR => ?_⟩
 obtain ⟨v, rfl, h⟩ := k x w' hR
 simp only [hd]
 exact h.run _ (ha.ins hn v)
theorem sxl_round {ops : Array Oper} {o : Oper} {rest : List Oper} {x : Operand} {xs : List Operand} {vs : List Value} {ts : Array TypeId} {lr : Nat} {r : Loop} {R : Ending → World → Prop} (d : Option Tmp) (hw : Wn ops e o) (hd : o.dst = d) (hn : IO n d = true)
 (ho : o.op = .call { callee := .value x, args := xs.toArray, argTypes := ts }) (hx : ev e x = some (.func (.yield lr) #[] #[])) (hxs : evs e xs = some vs) (hh : w.heap[lr]? = some (.loop r)) (hl : vs.length = r.params.size)
 (hc : RoundIn Fence.wide 2 P lr r.fn ((r.params.zip vs.toArray).foldl (fun tmps (t, a) => tmps.setIfInBounds t a) r.tmps) r.assign r.body w R)
 (k : ∀ x w', R x w' → ∃ v, x = .returned v ∧ SxL rd D P ops Q n rest (e.ins d v) w') : SxL rd D P ops Q n (o :: rest) e w := .mk fun a ha => by
 unfold wpListIn
 rw [if_pos (hw D n a ha)]
 refine ⟨fun f _ => PP rd f, ?_⟩
 rw [Oper.semAt_eq _ _ _ (fun c h => by rw [ho] at h; cases h)]
 have hrun : (execOp a.eval o).run P w = (Instr.yield lr vs.toArray).run P w := by
  have h1 : a.eval x = .func (.yield lr) #[] #[] := ha.eval _ _ hx
  have h2 := ha.eval.all hxs
  unfold execOp
  simp [ho, resolve, h1, Deferred.ofValue, invoke, h2]
 rw [hrun, run_yield (P := P) hh (by simpa using hl), Oper.uponIn_round]
 refine ⟨fun h => by rw [NW] at h; (cases h), (i8 hc 1).mono fun x w' hR => ?_⟩
 obtain ⟨v, rfl, h⟩ := k x w' hR
 simp only [hd]
 exact h.run _ (ha.ins hn v)
def Again (D : List Deferred) (I : Env → World → Nat → Prop) (n m : Nat) (a : Act) (w : World) : Prop := ∃ e m', I e w m' ∧ m' < m ∧ Agr D n e a
theorem sx_loop {c : Code} (I : Env → World → Nat → Prop) {m0 : Nat} {e0 : Env} (h0 : I e0 w m0) (hl : e0.le e)
 (round : ∀ e w m, I e w m → Sx rd D P c (Exit.then (Again D I n m) Q) n e w) : Sx rd D P (Code.loop c) Q n e w := by
 refine ⟨fun a ha => wpIn_loop_rounds (m0 + 1) ?_⟩
 have key : ∀ k e w a m, m < k → I e w m → Agr D n e a → Code.roundsIn (rF rd) 2 P c Q k a w := by
  intro k
  induction k with
  | zero => intro e w a m hm; omega
  | succ k ih =>
   intro e w a m hm hI hA
   rw [roundsIn_succ]
   refine wpIn_mono ((round e w m hI).run a hA) fun x a' w' hx => ?_
   cases x with
   | normal =>
    obtain ⟨e', m', h1, h2, h3⟩ := hx
    exact ih e' w' a' m' A0 h1 h3
   | exit id => exact hx
   | goto l => exact hx
   | ret => exact hx
   | panic ch => exact hx
   | outgrown => exact hx
 exact key (m0 + 1) e0 w a m0 A0 h0 (ha.weak hl)
theorem qx_again {I : Env → World → Nat → Prop} {m : Nat} (r : Env) (m' : Nat) (hI : I r w m') (hm : m' < m) (hl : r.le e) : QX D (Exit.then (Again D I n m) Q) .normal n e w := ⟨fun _ ha => ⟨r, m', hI, hm, ha.weak hl⟩⟩
theorem sx_enter {f : FuncId} {fn : Func} {c : Code} {vs : List Value} {R : Ending → World → Prop} (hf : P.funcs[f]? = some fn) (hb : fn.body = some c) (hn : fn.ntmps = n) (hl : Nat.ble vs.length n = true)
 (h : Sx none [] P c (bodyPostM Fence.wide 2 P fn R) n (N8 0 vs) w) : Calls P f vs.toArray w R := by
 refine (callsIn_wide (n := 2)).1 (callsIn_of_wp_marks hf hb trivial (h.run _ ⟨?_, rfl, fun k v hk => ?_⟩))
 ·have := Nat.le_of_ble_eq_true hl
  simp; omega
 ·obtain ⟨_, h2⟩ := N7 vs 0 k v hk
  rw [Nat.sub_zero] at h2
  have hlt := (List.getElem?_eq_some_iff.1 h2).1
  rw [Array.getElem?_append_left (by simpa using hlt)]
  simpa using h2
theorem qx_ret1 {fn : Func} {R : Ending → World → Prop} {t : Nat} {v : Value} (hr : fn.results = #[.tmp t]) (hv : e.get t = some v) (h : R (.returned v) w) : QX [] (bodyPostM Fence.wide 2 P fn R) .ret n e w := .mk fun a ha => by
 have : (results fn a.tmps).run P w = .ok v w := by simp [results, hr, ha.get t v hv]
 show LeavesInM _ _ _ _ _ _ a.defers _ _
 rw [ha.defers]
 exact ⟨v, this, h⟩
theorem qx_ret0 {fn : Func} {R : Ending → World → Prop} {x : Exit} (hx : x = .ret ∨ x = .normal) (hr : fn.results = #[]) (h : R (.returned (.tuple #[])) w) : QX [] (bodyPostM Fence.wide 2 P fn R) x n e w := .mk fun a ha => by
 have : (results fn a.tmps).run P w = .ok (.tuple #[]) w := by simp [results, hr]
 rcases hx with rfl | rfl
 ·show LeavesInM _ _ _ _ _ _ a.defers _ _
  rw [ha.defers]; exact ⟨_, this, h⟩
 ·show LeavesInM _ _ _ _ _ _ a.defers _ _
  rw [ha.defers]; exact ⟨_, this, h⟩
theorem UK {fn : Func} {R : Ending → World → Prop} {t b : Nat} {v : Value} (hr : fn.results = #[.tmp t]) (hv : e.get t = some v) (hb : w.heap[b]? = some (.deferred (some []))) (h : R (.returned v) (w.putObj b (.deferred none))) :
 QX [{ target := .collected b, args := #[] }] (bodyPostM Fence.wide 2 P fn R) .ret n e w := .mk fun a ha => by
 have : (results fn a.tmps).run P (w.putObj b (.deferred none)) = .ok v (w.putObj b (.deferred none)) := by simp [results, hr, ha.get t v hv]
 show LeavesInM _ _ _ _ _ _ a.defers _ _
 rw [ha.defers]
 exact ⟨by simp, .inl ⟨b, _, rfl, run_takeDeferred hb, ⟨v, this, h⟩⟩⟩
def TB (w : World) (fn : FuncId) (tm : Array Value) (ps : Array Nat) (asg body : Code) : Loop := { state := .ready, pending := none, fn := fn, tmps := tm, params := ps, assign := asg, body := body, defers := w.heap.size }
def P6 (w : World) (fn : FuncId) (tm : Array Value) (ps : Array Nat) (asg body : Code) : World := (w.alloc (.deferred (some []))).alloc (.loop (TB w fn tm ps asg body))
theorem gH {g : Operand} {ps : Array Nat} {asg body : Code} {f : FuncId} {cs : List Value} (hg : ev e g = some (.func (.func f) #[] cs.toArray)) (hc : ∀ (us : Array Value) (w : World), (callFunc f us).run P w = .ok (.enter f us) w)
 (h : ∀ fn tm rc, tm.size = n → (∀ k v, e.get k = some v → tm[k]? = some v) → rc = TB w fn tm ps asg body → Calls P f ((.func (.yield (w.heap.size + 1)) #[] #[]) :: cs).toArray ((w.alloc (.deferred (some []))).alloc (.loop rc))
  fun x w3 => ∃ v r, x = .returned v ∧ w3.heap[w.heap.size + 1]? = some (.loop r) ∧ r.state ≠ .busy ∧ r.pending = none ∧ QX ({ target := .collected w.heap.size, args := #[] } :: D) Q .normal n e (w3.putObj (w.heap.size + 1) (.loop { r with state := .exhausted }))) :
 Sx none D P (Code.rangeFunc g ps asg body) Q n e w := .mk fun a ha => by
 refine wpIn_rangeFunc fun fn _ => ?_
 have hu : a.eval g = .func (.func f) #[] cs.toArray := ha.eval _ _ hg
 refine ⟨w.heap.size + 1, [{ target := .collected w.heap.size, args := #[] }], P6 w fn a.tmps ps asg body, { target := .fn (.func f) cs.toArray, args := #[] ++ #[.func (.yield (w.heap.size + 1)) #[] #[]] }, P6 w fn a.tmps ps asg body, f, ((.func (.yield (w.heap.size + 1)) #[] #[]) :: cs).toArray, P6 w fn a.tmps ps asg body,
  by rw [W5, run_enterLoop_outer]; rfl, ?_, fun f' _ => PP _ f', ?_, fun hd => by rw [NW] at hd; (cases hd), ?_⟩
 ·simp only [resolve, hu, Deferred.ofValue, Sem.run_pure]; simp [Act.eval]
 ·unfold invoke
  simp [hc]
 ·refine (SD (h fn a.tmps _ ha.size ha.get rfl) 1).mono fun x w3 hR => ?_
  obtain ⟨v, r, rfl, hr, hb, hp, hq⟩ := hR
  refine ⟨_, _, run_endLoop hr hb, ?_⟩
  have X := hq.run { a with defers := [{ target := .collected w.heap.size, args := #[] }] ++ a.defers } ⟨ha.size, by show [({ target := .collected w.heap.size, args := #[] } : Deferred)] ++ a.defers = _; rw [ha.defers]; rfl, ha.get⟩
  rw [hp] at X ⊢
  exact X
end
end Go.Proofs.YtaheakjfkpkefaaGreatDoor.Sf
namespace Go.Proofs.YtaheakjfkpkefaaGreatDoor
open Go.RowKit
section
variable {P : Program} {ops : Array Oper} {md : Region.Mode} {w : World}
theorem SN {o : Oper} {a : Act} {K : Act → Prop} {K' : Act → World → Prop} {Q' : Exit → Act → World → Prop} (h : ∀ a, K a → K' a w) (hh : o.still P a w K) : o.wpIn Fence.wide 2 P a w K' Q' := by
 unfold Oper.still at hh
 refine ⟨fun f _ => trivial, ?_⟩
 rw [show Fence.wide.round = none from rfl, Oper.semAt_none]
 generalize (execOp a.eval o).run P w = r at *
 cases r with
 | ok n w' =>
  cases n <;> simp only [Oper.stillUpon] at hh <;> simp only [Oper.uponIn]
  case enter f args =>
   obtain ⟨rfl, v, hc, hn⟩ := hh
   exact ⟨fun h => (by cases h), callsIn_wide.2 (hc.mono fun e w'' ⟨he, hw⟩ => by subst he; subst hw; exact h _ hn)⟩
  all_goals (obtain ⟨rfl, h2⟩ := hh; exact h _ h2)
 | halt x w' => simp only [Oper.stillUpon] at hh
theorem QS {i : Nat} {a : Act} {K : Act → Prop} {K' : Act → World → Prop} {Q' : Exit → Act → World → Prop} (h : ∀ a, K a → K' a w) (hh : stOp P ops w i K a) : wpOpIn Fence.wide 2 P ops Q' i K' a w := by
 unfold stOp at hh
 unfold wpOpIn
 split
 ·rename_i ho; simp only [ho] at hh; exact h _ hh
 ·rename_i o ho
  simp only [ho] at hh
  split
  ·rename_i hw; simp only [hw, if_true] at hh; exact SN h hh
  ·rename_i hw; simp only [hw] at hh; exact ⟨fun _ _ => trivial, h _ hh⟩
theorem KJ {n g : Nat} {L : Array Bool → Act → Prop} {Q' : Exit → Act → World → Prop} (hL : ∀ listed a, L listed a → wpAnyIn Fence.wide 2 P md ops Q' g listed a w) :
 ∀ (f : Nat) (listed : Array Bool) (a : Act), wpAnyL P md ops w n L f listed a → wpAnyIn Fence.wide 2 P md ops Q' (f + g) listed a w
 | 0, listed, a, h => by rw [Nat.zero_add]; exact hL _ _ h
 | f + 1, listed, a, h => by
  rw [show f + 1 + g = (f + g) + 1 by omega]
  exact ⟨fun h0 => absurd h0 h.1, fun i hi => QS (fun a' h' => KJ hL f _ a' h') (h.2 i hi).2⟩
theorem KU {Q' : Exit → Act → World → Prop} : ∀ (l : List Oper) (k : Nat) (listed : Array Bool) (a : Act) (w : World), (∀ j, l[j]? = ops[k + j]?) →
 Region.seqB md ops l.length k listed = true → wpListIn Fence.wide 2 P ops Q' l a w → wpAnyIn Fence.wide 2 P md ops Q' l.length listed a w
 | [], _, _, _, _, _, hB, h => ⟨by simpa [Region.seqB] using hB, h⟩
 | o :: l, k, listed, a, w, hl, hB, h => by
  have h0 : ops[k]? = some o := by simpa using (hl 0).symm
  simp only [List.length_cons, Region.seqB, Bool.and_eq_true, decide_eq_true_eq] at hB
  refine ⟨fun h1 => (by rw [hB.1] at h1; cases h1), fun i hi => ?_⟩
  rw [hB.1] at hi
  have hik : i = k := by simpa using hi
  subst hik
  have hw : wpOpIn Fence.wide 2 P ops Q' i (wpListIn Fence.wide 2 P ops Q' l) a w := by unfold wpOpIn; simp only [h0]; exact h
  exact wpOpIn_mono (fun a' w' h' => KU l (i + 1) _ a' w' (fun j => by have := hl (j + 1); simpa [Nat.add_assoc, Nat.add_comm 1 j] using this) hB.2 h') hw
theorem OO {id : Nat} {Q : Exit → Act → World → Prop} {a : Act} {w : World} {l : List Oper} (n : Nat) (hm : P.follows .mixedOrders = true) (hB : Region.lexTailB .any l.toArray n = true)
 (h : wpStill P l.toArray { w with drawn := w.drawn + 1 } (fun a' => wpListIn Fence.wide 2 P l.toArray Q (l.drop n) a' { w with drawn := w.drawn + 1 }) (l.take n) a) : (Code.region id l.toArray true).wpIn Fence.wide 2 P Q a w := by
 simp only [Region.lexTailB, Bool.and_eq_true, decide_eq_true_eq] at hB
 obtain ⟨⟨⟨⟨hsel, hn⟩, hs⟩, hc⟩, hlex⟩ := hB
 have hn' : n < l.length := by simpa using hn
 have htl : (l.take n).length = n := by simp; omega
 have hdl : (l.drop n).length = l.toArray.size - n := by simp
 have inv0 : HeadInv .any l.toArray n (Array.replicate l.toArray.size false) :=
  ⟨by simp, fun j oj _ hl => (by rw [getD_replicate_false] at hl; cases hl), fun t _ ht => getD_in (by simpa using ht) (getD_replicate_false _ _)⟩
 have H := wpAnyL_lex (md := .any) (g := l.toArray.size - n) hsel hs hc hn (l.take n) 0 _ a (fun j hj => by
  have hj' : j < n := by rw [htl] at hj; exact hj
  simp [hj']) (by simpa using htl) inv0 (by rw [htl]; exact hlex) h
 refine wpIn_region_any hm ?_
 have := KJ (Q' := Q) (g := l.toArray.size - n) (fun listed a' hL => by
  have := KU (md := .any) (Q' := Q) (l.drop n) n listed a' { w with drawn := w.drawn + 1 } (fun j => by simp [List.getElem?_drop]) (by rw [hdl]; exact hL.1) hL.2
  rwa [hdl] at this) _ _ _ H
 rw [htl, show n + (l.toArray.size - n) = l.toArray.size by omega] at this
 exact this
end
section
variable {P : Program} {Q : Exit → Act → World → Prop} {n : Nat} {e : Env} {w : World}
theorem gD {id : Nat} {l : List Oper} (k : Nat) (hm : P.follows .mixedOrders = true) (hB : Region.lexTailB .any l.toArray k = true)
 (h : SxS P l.toArray w.drew (fun a' => wpListIn Fence.wide 2 P l.toArray Q (l.drop k) a' w.drew) n (l.take k) e) : Sx P (Code.region id l.toArray true) Q n e w := ⟨fun a ha => wpIn_wide.1 (OO k hm hB (h.run a ha))⟩
theorem T7 {ops : Array Oper} {l : List Oper} (h : Sf.SxL none [] P ops Q n l e w) : SxS P ops w (fun a' => wpListIn Fence.wide 2 P ops Q l a' w) n [] e := ⟨fun a ha => wpStill_nil (h.run a ⟨ha.size, ha.defers, ha.get⟩)⟩
theorem ZI {ops : Array Oper} (h : QX Q .normal n e w) : Sf.SxL none [] P ops Q n [] e w := ⟨fun a ha => wpListIn_nil (h.run a ⟨ha.size, ha.defers, ha.get⟩)⟩
end
end Go.Proofs.YtaheakjfkpkefaaGreatDoor
