/- Lemmas that the last text rests on. Condition: each says its own. -/
import Derived.Test.YtaheakjfkpkefaaGreatDoorZRu8
import Derived.Test.YtaheakjfkpkefaaGreatDoorZMv2
set_option maxHeartbeats 16000000
set_option maxRecDepth 100000
namespace Go.Proofs.YtaheakjfkpkefaaGreatDoor
open Go.RowKit
open Tryz
def uX : List Value := [.func (.func 66) #[] #[], .func (.func 67) #[] #[], .func (.func 68) #[] #[], .func (.func 69) #[] #[], .func (.func 70) #[] #[], .func (.func 71) #[] #[], .func (.func 72) #[] #[], .func (.func 73) #[] #[], .func (.func 74) #[] #[]]
def PF (m : Md) : List (Option (List UInt8)) := [EY m, ffE (UD m) m.els, ffF (KU m) m.fls, ffE (IJ m) m.els, bE m, W7 m, ffE (K4 m) m.els, ffE (LG m) m.els, ffE (dM m) m.els]
theorem tM (m : Md) (a : MdA) (ix : IxA) (gx : Nat) (hb : MdB m) : ∀ i, i < 9 → (i = 0 ∨ MdOk m) → ∃ fd b, uX[i]? = some (.func (.func fd) #[] #[]) ∧ (PF m)[i]? = some b ∧ (∀ (ar : Array Value) (w : World), (callFunc fd ar).run prog w = .ok (.enter fd ar) w) ∧
 ∀ W, IxAt W m a ix gx → Lay0 W → Calls prog fd #[pg gx] W (BM W (.tuple #[str (b.getD []), .bool b.isSome])) := by
 intro i hi hk
 have ho : i ≠ 0 → MdOk m := fun h => hk.resolve_left h
 match i, hi with
 | 0, _ => exact ⟨_, _, rfl, rfl, call66, fun W hx hY => oL m a ix gx W hb hx hY⟩
 | 1, _ => exact ⟨_, _, rfl, rfl, call67, fun W hx _ => nH m a ix gx W (ho AY) hx⟩
 | 2, _ => exact ⟨_, _, rfl, rfl, call68, fun W hx _ => cM m a ix gx W (ho AY) hx⟩
 | 3, _ => exact ⟨_, _, rfl, rfl, call69, fun W hx _ => lH m a ix gx W (ho AY) hx⟩
 | 4, _ => exact ⟨_, _, rfl, rfl, call70, fun W hx _ => lL m a ix gx W (ho AY) hx⟩
 | 5, _ => exact ⟨_, _, rfl, rfl, call71, fun W hx hY => nV m a ix gx W (ho AY) hx hY⟩
 | 6, _ => exact ⟨_, _, rfl, rfl, call72, fun W hx _ => cX m a ix gx W (ho AY) hx⟩
 | 7, _ => exact ⟨_, _, rfl, rfl, call73, fun W hx _ => f6 m a ix gx W (ho AY) hx⟩
 | 8, _ => exact ⟨_, _, rfl, rfl, call74, fun W hx _ => jT m a ix gx W (ho AY) hx⟩
 | i + 9, hi => omega
def GW : Nat → List (Option (List UInt8)) → Nat × List UInt8 × Int
 | _, [] => (0, [], 0)
 | i, some k :: _ => (i + 1, k, 140)
 | i, none :: r => GW (i + 1) r
theorem SZ {i : Nat} {b : Option (List UInt8)} {r : List (Option (List UInt8))} (h : b.isSome = false) : GW i (b :: r) = GW (i + 1) r := by
 cases b with
 | none => rfl
 | some k => cases h
theorem SY {i : Nat} {b : Option (List UInt8)} {r : List (Option (List UInt8))} (h : b.isSome = true) : GW i (b :: r) = (i + 1, b.getD [], 140) := by
 cases b with
 | none => cases h
 | some k => rfl
theorem r4 {m : Md} (hb : MdB m) {i : Nat} {b : Option (List UInt8)} (hk : i = 0 ∨ MdOk m) (h : (PF m)[i]? = some b) (hn : b.isSome = false) : i + 1 = 0 ∨ MdOk m := by
 rcases hk with rfl | hk
 ·right
  injection h with h
  subst h
  have hq : OV m = false := by
   cases hq : OV m with
   | false => rfl
   | true => rw [EY, if_pos hq] at hn; cases hn
  have h1 := (BS hq).1
  have a1 := odf (BS (BS h1).1).2
  have a2 := odf (BS h1).2
  have a3 := odf (BS hq).2
  exact ⟨hb.id, hb.nm, hb.vars, by omega, by omega, by omega, hb.els, hb.fls⟩
 ·exact .inr hk
def KL (m : Md) : Nat × List UInt8 × Int := GW 0 (PF m)
theorem jQ {m : Md} (hb : MdB m) (h : (KL m).2.2 = 0) : MdOk m := by
 have h0 : (EY m).isSome = false := by
  cases hq : EY m with
  | none => rfl
  | some k =>
   have : (KL m).2.2 = 140 := by unfold KL PF; rw [hq]; rfl
   rw [this] at h; cases h
 exact (r4 hb (i := 0) (.inl rfl) rfl h0).resolve_left AY
theorem P0 : (prog.info? 159).map (fun i => (i.zero, i.size)) = some (some (.nilFunc), 1) := by kernel_rfl
theorem UL (m : Md) (a : MdA) (w : World) (ho : MdB m) (hM : MdIn w m a) (hY : Lay0 w) :
 Calls prog 38 #[.agg (Md.cells m a).toArray] w (BM w (.tuple #[AA (((KL m).1 : Nat) : Int), str (KL m).2.1, AA (KL m).2.2])) := by
 refine BK func38 ntmps38 rfl fun M => srg (D7 M rfl rfl fun g1 w1 hg1 M => AT rfl rfl (AG rfl (srg (DP M 0 rfl rfl underlying62 B9 rfl (cl 11 rfl (AE rfl rfl call65) (RR m a _ ho (hM.fr0 M.fr)) ?_)))))
 rintro _ w2 ⟨ix, gx, FX, rfl, hix, hnx, hfw2⟩
 refine ⟨_, rfl, ?_⟩
 have M := M.push hfw2 (As.ixp m a ix gx FX) hix hnx
 refine AG rfl (sx_seq (srg (CT M (wn_none rfl) rfl rfl [.func (.func 66) #[] #[], .func (.func 67) #[] #[], .func (.func 68) #[] #[], .func (.func 69) #[] #[], .func (.func 70) #[] #[], .func (.func 71) #[] #[], .func (.func 72) #[] #[], .func (.func 73) #[] #[], .func (.func 74) #[] #[]] ([.func (.func 66) #[] #[], .func (.func 67) #[] #[], .func (.func 68) #[] #[], .func (.func 69) #[] #[], .func (.func 70) #[] #[], .func (.func 71) #[] #[], .func (.func 72) #[] #[], .func (.func 73) #[] #[], .func (.func 74) #[] #[]]) rfl rfl rfl rfl underlying158 P0 rfl rfl (by intro v hv; simp only [List.mem_cons, List.not_mem_nil, or_false] at hv; rcases hv with rfl | rfl | rfl | rfl | rfl | rfl | rfl | rfl | rfl <;> rfl) rfl fun g12 w3 hg12 M => DA rfl rfl (AG rfl (sx_block (KB M [13, 12, 5] (fun ze zF e wr mz => ∃ (i : Nat), e = (14, AA (i : Int)) :: ze ∧ zF wr ∧ (i ≤ 9) ∧ (GW 0 (PF m) = GW i ((PF m).drop i)) ∧ (i = 0 ∨ MdOk m) ∧ mz = 9 - i) ⟨0, rfl, M, Nat.zero_le _, rfl, .inl rfl, rfl⟩ ?_))))))
 rintro _ w4 _ ⟨i, rfl, M, hi, hE, hk, rfl⟩
 refine srg (BH rfl rfl (nq (sx_seq (AF rfl (fun h15 => ?_) (fun h15 => ?_)))))
 ·have h15p := (odt h15)
  have hil : i < 9 := by omega
  refine sx_skip (qx_seq (sx_seq (sx_block (AC rfl ?_))))
  obtain ⟨fd, b, hfd, hbk, hen, hcl⟩ := tM m a ix gx ho i hil hk
  refine ya rfl (KR (j := i) rfl rfl rfl (sl rfl) A0) (yl rfl rfl (Blk.c (M.blk 0 rfl) (0 + i * 1) (by rw [Nat.zero_add, Nat.mul_one]; exact hfd)) (yb rfl (AG rfl (AC rfl (yb rfl (ST M 22 rfl (BE rfl rfl rfl hen) (hcl _ (IxN.at (M.ok 1 _ rfl) (hM.fr0 M.fr)) (hY.fr0 M.fr)) fun w5 M => ?_))))))
  iterate 5 refine yb rfl ?_
  refine EC (AG rfl (AF rfl (fun h25 => ?_) (fun h25 => ?_)))
  ·refine AC rfl (BT rfl rfl ?_)
   iterate 4 refine yb rfl ?_
   exact gnr (qx_block_ret (qx_then_ret (qx_then_ret (qx_block_ret (qx_then_ret (QG rfl rfl rfl rfl ⟨by rw [KL, hE, B2 hbk, SY h25] <;> rfl, M.fr⟩))))))
  ·refine sx_skip (qx_block_normal (qx_seq (sx_region (BT rfl rfl (yb rfl (sxl_nil (fag ⟨i + 1, rfl, M, ?_, ?_, ?_, rfl⟩)))))))
   ·omega
   ·rw [hE, B2 hbk, SZ h25]
   ·exact r4 ho hk hbk h25
 ·have h15p := (odf h15)
  refine sx_exit (qx_then_exit (qx_then_exit ?_))
  obtain rfl : i = 9 := by omega
  exact qx_block_hit (qx_seq (AC rfl (AT rfl rfl (gnr (QG rfl rfl rfl rfl ⟨by rw [KL, hE]; rfl, M.fr⟩)))))
section
def MpS (w : World) (g : Nat) (L : List (List UInt8 × Value)) : Option (List UInt8 × Nat) → Prop
 | none => MpB w g L
 | some (k, b) => EntAt w g L k b
theorem MpS.keep {w w' : World} {g : Nat} {L : List (List UInt8 × Value)} {st : Option (List UInt8 × Nat)} (hk : g < w.heap.size → w'.heap[g]? = w.heap[g]?) (h : MpS w g L st) : MpS w' g L st := by
 cases st with
 | none => exact MpB.keep hk h
 | some p => obtain ⟨k, b⟩ := p; exact EntAt.keep hk h
def As.mpS (g : Nat) (L : List (List UInt8 × Value)) (st : Option (List UInt8 × Nat)) : As := ⟨[g], fun w => MpS w g L st, fun h hb => hb.keep (h g (by simp))⟩
structure RowS (w : World) (g : Nat) (L : List (List UInt8 × Value)) (st : Option (List UInt8 × Nat)) (rows : List UInt8 → List (List UInt8)) (F : List Nat) : Prop where
 map : MpS w g L st
 gF : ¬ g ∈ F
 row : ∀ k, ∃ A C, EB L k = .slice A (rows k).length C ∧ Rd w A ((rows k).length * 1) (AB BJ (rows k)) ∧ ∀ b off p, A = some ⟨b, off, p⟩ → b ∈ F
theorem RowS.keep {w w' : World} {g : Nat} {L : List (List UInt8 × Value)} {st : Option (List UInt8 × Nat)} {rows : List UInt8 → List (List UInt8)} {F : List Nat} (hk : ∀ x ∈ g :: F, x < w.heap.size → w'.heap[x]? = w.heap[x]?) (h : RowS w g L st rows F) : RowS w' g L st rows F :=
 ⟨h.map.keep (hk g (by simp)), h.gF, fun k => by
  obtain ⟨A, C, h1, h2, h3⟩ := h.row k
  exact ⟨A, C, h1, GT h2 (fun x hx => hk x (List.mem_cons_of_mem _ hx)) h3, h3⟩⟩
def As.rowS (g : Nat) (L : List (List UInt8 × Value)) (st : Option (List UInt8 × Nat)) (rows : List UInt8 → List (List UInt8)) (F : List Nat) : As := ⟨g :: F, fun w => RowS w g L st rows F, fun h hb => hb.keep h⟩
def As.both (a b : As) : As := ⟨a.fp ++ b.fp, fun w => a.ok w ∧ b.ok w, fun h hb => ⟨a.keep (fun g hg => h g (List.mem_append_left _ hg)) hb.1, b.keep (fun g hg => h g (List.mem_append_right _ hg)) hb.2⟩⟩
section
variable {w0 w w' : World} {S : Nat → Prop} {Ls : List As} {g b : Nat} {L L' : List (List UInt8 × Value)} {k : List UInt8} {rows : List UInt8 → List (List UInt8)} {F : List Nat} {st : Option (List UInt8 × Nat)}
theorem oZ (w : World) : MpB (w.alloc (.map #[] 0)) w.heap.size [] := ⟨#[], 0, by show (w.heap.push (.map #[] 0))[w.heap.size]? = _; simp, rfl, by simp, by simp⟩
theorem R2 {P : Program} {Q : Exit → Act → World → Prop} {n : Nat} {e : Env} {ops : Array Oper} {o : Oper} {rest : List Oper} (M : Mem w0 S Ls w) {d t : Nat} (hw : Wn ops e o) (hd : o.dst = some d) (hn : Nat.blt d n = true) (ho : o.op = .makeMap t none)
 (k : ∀ g w', w.heap.size ≤ g → Mem w0 S (As.mpS g [] none :: Ls) w' → SxL P ops Q n rest ((d, .map (some g)) :: e) w') : SxL P ops Q n (o :: rest) e w := by
 refine sxl_does (some d) hw hd hn (fun ρ hρ => S5 ho) ?_
 rintro _ w1 ⟨rfl, rfl⟩
 exact k _ _ (Nat.le_refl _) (M.push (Fr.refl.alloc _) _ (oZ w) (fun g' hg' => by simp only [As.mpS, List.mem_singleton] at hg'; subst hg'; simp))
theorem Mem.mpS (M : Mem w0 S Ls w) (i : Nat) (hi : Ls[i]? = some (As.mpS g L st)) : MpS w g L st := M.ok i _ hi
theorem Mem.rowS (M : Mem w0 S Ls w) (i : Nat) (hi : Ls[i]? = some (As.rowS g L st rows F)) : RowS w g L st rows F := M.ok i _ hi
theorem Mem.toRow (M : Mem w0 S Ls w) (i : Nat) (hi : Ls[i]? = some (As.mpS g [] none)) : Mem w0 S (Ls.set i (As.rowS g [] none (fun _ => []) [])) w :=
 M.upd i hi Fr.refl _ (show RowS w g [] none (fun _ => []) [] from ⟨M.ok i _ hi, by simp, fun k => ⟨none, 0, by simp [EB, BP], Rd.nil, fun b off p h => by cases h⟩⟩) (fun _ hg' => .inl hg')
theorem Mem.entA (M : Mem w0 S Ls w) (i : Nat) (hi : Ls[i]? = some (As.mpS g L none)) (hf : Fr (fun x => x = g) w w') (hE : EntAt w' g L' k b) : Mem w0 S (Ls.set i (As.mpS g L' (some (k, b)))) w' :=
 M.upd i hi (hf.mono fun k _ e => by simp only [As.mpS, List.mem_singleton]; exact e) (As.mpS g L' (some (k, b))) hE (fun _ hg' => .inl hg')
theorem Mem.putA (M : Mem w0 S Ls w) (i : Nat) (hi : Ls[i]? = some (As.mpS g L (some (k, b)))) (hf : Fr (fun x => x = g) w w') (hE : MpB w' g L') : Mem w0 S (Ls.set i (As.mpS g L' none)) w' :=
 M.upd i hi (hf.mono fun k _ e => by simp only [As.mpS, List.mem_singleton]; exact e) (As.mpS g L' none) hE (fun _ hg' => .inl hg')
theorem Mem.entR (M : Mem w0 S Ls w) (i : Nat) (hi : Ls[i]? = some (As.rowS g L none rows F)) (hf : Fr (fun x => x = g) w w') (hE : EntAt w' g (CM L k ((BP L k).getD (.slice none 0 0))) k b) : Mem w0 S (Ls.set i (As.rowS g (CM L k ((BP L k).getD (.slice none 0 0))) (some (k, b)) rows F)) w' := by
 have h : RowS w g L none rows F := M.ok i _ hi
 refine M.upd i hi (hf.mono fun k _ e => by rw [e]; exact List.mem_cons_self) _ (show RowS w' g _ (some (k, b)) rows F from ⟨hE, h.gF, fun k' => ?_⟩) (fun _ hg' => .inl hg')
 obtain ⟨A, C, h1, h2, h3⟩ := h.row k'
 refine ⟨A, C, ?_, GT h2 (fun x hx hl => hf.block x hl (fun e => h.gF (e ▸ hx))) h3, h3⟩
 rw [IH]
 by_cases hk : k' = k
 ·subst hk; rw [if_pos rfl]; exact h1
 ·rw [if_neg hk]; exact h1
theorem Mem.putR {base T n C : Nat} {A : Option Addr} {l : List (List UInt8)} (M : Mem w0 S (As.own base T 1 (.slice A n C) n (AB BJ l) :: As.rowS g L (some (k, b)) rows F :: Ls) w) (hf : Fr (fun x => x = g) w w') (hE : MpB w' g (CM L k (.slice A n C))) (hn : n = l.length) :
 ∃ F', Mem w0 S (As.rowS g (CM L k (.slice A n C)) none (fun k' => if k' = k then l else rows k') F' :: Ls) w' := by
 have ho := M.own 0 rfl
 have h : RowS w g L (some (k, b)) rows F := M.ok 1 _ rfl
 have hap : ∀ x ∈ (Value.slice A n C).ownBlock.toList, ¬ x ∈ g :: F := fun x hx => M.apart 0 1 _ _ rfl rfl AY x hx
 have M1 := M.joinFam (As.both (As.own base T 1 (.slice A n C) n (AB BJ l)) (As.rowS g L (some (k, b)) rows F)) ⟨ho, h⟩ (fun x hx => List.mem_append.1 hx)
 have hA : ∀ b off p, A = some ⟨b, off, p⟩ → b ∈ (Value.slice A n C).ownBlock.toList := fun b off p e => by subst e; simp [Value.ownBlock]
 refine ⟨(Value.slice A n C).ownBlock.toList ++ F, M1.upd 0 rfl (hf.mono fun x _ e => by rw [e]; exact List.mem_append_right _ List.mem_cons_self) _ (show RowS w' g _ none _ _ from ⟨hE, ?_, fun k' => ?_⟩) ?_⟩
 ·intro hh
  rcases List.mem_append.1 hh with hh | hh
  ·exact hap g hh List.mem_cons_self
  ·exact h.gF hh
 ·rw [IH]
  by_cases hk : k' = k
  ·subst hk
   simp only [if_pos]
   rw [hn] at ho hA ⊢
   refine ⟨A, C, rfl, GT (K6 ho) (F := (Value.slice A l.length C).ownBlock.toList) (fun x hx hl => hf.block x hl (fun e => hap x (hn ▸ hx) (by rw [e]; exact List.mem_cons_self))) hA, fun b off p e => List.mem_append_left _ (hA b off p e)⟩
  ·simp only [if_neg hk]
   obtain ⟨A', C', h1, h2, h3⟩ := h.row k'
   exact ⟨A', C', h1, GT h2 (fun x hx hl => hf.block x hl (fun e => h.gF (e ▸ hx))) h3, fun b off p e => List.mem_append_right _ (h3 b off p e)⟩
 ·intro x hx
  left
  rcases List.mem_cons.1 (show x ∈ g :: ((Value.slice A n C).ownBlock.toList ++ F) from hx) with rfl | hx
  ·exact List.mem_append_right _ List.mem_cons_self
  ·rcases List.mem_append.1 hx with hx | hx
   ·exact List.mem_append_left _ hx
   ·exact List.mem_append_right _ (List.mem_cons_of_mem _ hx)
theorem Mem.mdN {m : Md} {a : MdA} (M : Mem w0 S Ls w) (i : Nat) (hi : Ls[i]? = some (As.mdp m a F)) : MdN w m a F := M.ok i _ hi
end
end
end Go.Proofs.YtaheakjfkpkefaaGreatDoor
