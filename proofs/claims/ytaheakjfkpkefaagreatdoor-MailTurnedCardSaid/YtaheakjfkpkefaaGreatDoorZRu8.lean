/- Lemmas that the last text rests on. Condition: each says its own. -/
import Derived.Test.YtaheakjfkpkefaaGreatDoorZRu7
set_option maxHeartbeats 16000000
set_option maxRecDepth 100000
namespace Go.Proofs.YtaheakjfkpkefaaGreatDoor
open Go.RowKit
open Tryz
theorem Mem.freshF {w0 w : World} {S : Nat → Prop} {L : List As} (M : Mem w0 S L w) (i : Nat) {g3 g6 : Nat} {seen : List (List UInt8)} (hi : L[i]? = some (As.fresh g3 g6 seen)) : Fresh w g3 g6 seen := M.ok i _ hi
theorem Mem.freshC {w0 w : World} {S : Nat → Prop} {L : List As} (M : Mem w0 S L w) (i : Nat) {g3 g6 : Nat} {seen : List (List UInt8)} (hi : L[i]? = some (As.fresh g3 g6 seen)) : Blk w g3 92 [.map (some g6)] := (M.freshF i hi).1
theorem T3 {e : Env} {w : World} {o : Oper} {t kt el : TypeId} {x i : Operand} {g3 g6 : Nat} {k : List UInt8} {seen : List (List UInt8)} (ho : o.op = .lookup t x i false) (hx : ev e x = some (.map (some g6))) (hi : ev e i = some (str k)) (hu : prog.underlying t = some (.map kt el)) (hd : prog.underlying kt = some .string)
 (hz : (prog.info? el).map (·.zero) = some (some (.bool false))) (hF : Fresh w g3 g6 seen) : Y prog e o w (.bool (decide (k ∈ seen))) := by
 obtain ⟨_, _, L, hm, hL⟩ := hF
 exact BF ho hx hi hu hd hz hm (hL k)
theorem UH {Q : Exit → Act → World → Prop} {n : Nat} {e : Env} {w w0 : World} {S : Nat → Prop} {L : List As} {ops : Array Oper} {o : Oper} {rest : List Oper} (M : Mem w0 S L w) (i : Nat) (hw : Wn ops e o) (hd : o.dst = none) {t kt el g3 g6 : Nat} {mp ix x : Operand} {key : List UInt8} {seen : List (List UInt8)} (ho : o.op = .mapUpdate t mp ix x) (hm : ev e mp = some (.map (some g6))) (hx : ev e ix = some (str key)) (hv : ev e x = some (.bool true)) (hu : prog.underlying t = some (.map kt el)) (hk : prog.underlying kt = some .string)
 (hi : L[i]? = some (As.fresh g3 g6 seen)) (k : ∀ w', Mem w0 S (L.set i (As.fresh g3 g6 (key :: seen))) w' → SxL prog ops Q n rest e w') : SxL prog ops Q n (o :: rest) e w := by
 obtain ⟨hc, hne, K, hm', hL⟩ := M.freshF i hi
 refine sxl_does none hw hd rfl (fun ρ hρ => EF ho (hρ _ _ hm) (hρ _ _ hx) (hρ _ _ hv) hu hk hm') ?_
 rintro _ w1 ⟨rfl, hf, hb⟩
 exact k w1 (M.updFresh i hi ⟨hc.fr hf hne, hne, _, hb, P2 hL⟩ (hf.mono fun _ _ e => .inr e))
def IR (m : Md) (s : List (List UInt8)) : Nat := (m.fls.filter fun f => !(decide (f.tg ∈ s))).length
theorem TS {α : Type} {p q : α → Bool} : ∀ l : List α, (∀ x ∈ l, q x = true → p x = true) → (l.filter q).length ≤ (l.filter p).length
 | [], _ => Nat.le_refl _
 | y :: t, h => by
  have h1 := TS t (fun x hx => h x (List.mem_cons_of_mem _ hx))
  rw [List.filter_cons, List.filter_cons]
  by_cases hy : q y = true
  ·rw [if_pos hy, if_pos (h y (by simp) hy), List.length_cons, List.length_cons]; omega
  ·rw [if_neg hy]
   split
   ·rw [List.length_cons]; omega
   ·exact h1
theorem TR {α : Type} {p q : α → Bool} : ∀ {l : List α} {f : α}, f ∈ l → (∀ x ∈ l, q x = true → p x = true) → p f = true → q f = false → (l.filter q).length < (l.filter p).length
 | x :: r, f, hf, hpq, hp, hq => by
  rw [List.filter_cons, List.filter_cons]
  have h1 := TS r (fun x hx => hpq x (List.mem_cons_of_mem _ hx))
  rcases List.mem_cons.1 hf with rfl | hf
  ·rw [if_pos hp, if_neg (by rw [hq]; decide), List.length_cons]; omega
  ·have h2 := TR hf (fun x hx => hpq x (List.mem_cons_of_mem _ hx)) hp hq
   by_cases hy : q x = true
   ·rw [if_pos hy, if_pos (hpq x (by simp) hy), List.length_cons, List.length_cons]; omega
   ·rw [if_neg hy]
    split
    ·rw [List.length_cons]; omega
    ·exact h2
theorem bJ {m : Md} {s : List (List UInt8)} {k : List UInt8} {f : Fl} (hf : f ∈ BI m.fls k) (h : decide (f.tg ∈ s) = false) : IR m (f.tg :: s) < IR m s := by
 have hf' : f ∈ m.fls := (List.mem_filter.1 hf).1
 refine TR hf' (fun x _ hx => ?_) (by rw [h]; rfl) (by simp)
 simp only [List.mem_cons, Bool.not_eq_true', decide_eq_false_iff_not] at hx ⊢
 exact fun z => hx (.inr z)
def KK (m : Md) (rc : List UInt8 → List (List UInt8) → List (List UInt8)) : List Fl → List (List UInt8) → List (List UInt8)
 | [], s => s
 | f :: r, s => if (WF m f.tg && (!(decide (f.tg ∈ s)))) = true then KK m rc r (rc f.tg (f.tg :: s)) else KK m rc r s
theorem NL {m : Md} {N : Nat} {rc : List UInt8 → List (List UInt8) → List (List UInt8)} (hmono : ∀ k' s', IR m s' < N → IR m (rc k' s') ≤ IR m s') {k : List UInt8} : ∀ (l : List Fl) (s : List (List UInt8)), (∀ f ∈ l, f ∈ BI m.fls k) → IR m s ≤ N → IR m (KK m rc l s) ≤ IR m s
 | [], _, _, _ => Nat.le_refl _
 | f :: r, s, hl, hN => by
  rw [KK]
  split
  ·rename_i h
   have hlt := bJ (s := s) (hl f (by simp)) (BO (BX h).2)
   have h1 := hmono f.tg (f.tg :: s) (Nat.lt_of_lt_of_le hlt hN)
   have h2 := NL hmono r (rc f.tg (f.tg :: s)) (fun x hx => hl x (List.mem_cons_of_mem _ hx)) A0
   omega
  ·exact NL hmono r s (fun x hx => hl x (List.mem_cons_of_mem _ hx)) hN
def T4 (m : Md) : Nat → List UInt8 → List (List UInt8) → List (List UInt8)
 | 0, k, s => KK m (fun _ s => s) (BI m.fls k) s
 | n + 1, k, s => KK m (T4 m n) (BI m.fls k) s
def o3 (m : Md) : Nat → List UInt8 → List (List UInt8) → List (List UInt8)
 | 0 => fun _ s => s
 | n + 1 => T4 m n
theorem VQ (m : Md) (n : Nat) (k : List UInt8) (s : List (List UInt8)) : T4 m n k s = KK m (o3 m n) (BI m.fls k) s := by cases n <;> rfl
theorem VP (m : Md) : ∀ (n : Nat) (k : List UInt8) (s : List (List UInt8)), IR m s ≤ n → IR m (T4 m n k s) ≤ IR m s
 | 0, k, s, h => NL (N := 0) (fun _ _ h => by omega) (k := k) _ s (fun _ hf => hf) h
 | n + 1, k, s, h => NL (N := n + 1) (fun k' s' h' => VP m n k' s' A0) (k := k) _ s (fun _ hf => hf) h
theorem aK (m : Md) (n : Nat) : ∀ (k : List UInt8) (s : List (List UInt8)), IR m s < n → IR m (o3 m n k s) ≤ IR m s := fun k s h => by
 cases n with
 | zero => omega
 | succ n => exact VP m n k s A0
theorem Mem.join2 {w0 w : World} {S : Nat → Prop} {L : List As} {a b : As} (M : Mem w0 S (a :: b :: L) w) (c : As) (hok : c.ok w) (hfp : ∀ g ∈ c.fp, g ∈ a.fp ∨ g ∈ b.fp) : Mem w0 S (c :: L) w := by
 have get : ∀ (i : Nat) (d : As), L[i]? = some d → (a :: b :: L)[i + 2]? = some d := fun i d h => h
 have fp : ∀ k, k ∈ c.fp → ∃ (i : Nat) (d : As), i < 2 ∧ (a :: b :: L)[i]? = some d ∧ k ∈ d.fp := fun k hk => by
  rcases hfp k hk with h | h
  ·exact ⟨0, _, by decide, rfl, h⟩
  ·exact ⟨1, _, by decide, rfl, h⟩
 refine ⟨M.fr, ?_, ?_, ?_⟩
 ·intro i d hi
  cases i with
  | zero => simp only [List.getElem?_cons_zero, Option.some.injEq] at hi; subst hi; exact hok
  | succ i => exact M.ok (i + 2) d (get i d (by simpa using hi))
 ·intro i d hi k hk
  cases i with
  | zero =>
   simp only [List.getElem?_cons_zero, Option.some.injEq] at hi; subst hi
   obtain ⟨j, e, _, h1, h2⟩ := fp k hk
   exact M.lt j e h1 k h2
  | succ i => exact M.lt (i + 2) d (get i d (by simpa using hi)) k hk
 ·intro i j d e hi hj hne k hk hk'
  cases i with
  | zero =>
   cases j with
   | zero => exact hne rfl
   | succ j =>
    simp only [List.getElem?_cons_zero, Option.some.injEq] at hi; subst hi
    obtain ⟨q, d', hq, h1, h2⟩ := fp k hk
    exact M.apart q (j + 2) d' e h1 (get j e (by simpa using hj)) A0 k h2 hk'
  | succ i =>
   cases j with
   | zero =>
    simp only [List.getElem?_cons_zero, Option.some.injEq] at hj; subst hj
    obtain ⟨q, d', hq, h1, h2⟩ := fp k hk'
    exact M.apart (i + 2) q d d' (get i d (by simpa using hi)) h1 A0 k hk h2
   | succ j => exact M.apart (i + 2) (j + 2) d e (get i d (by simpa using hi)) (get j e (by simpa using hj)) A0 k hk hk'
theorem m8 (m : Md) (s : List (List UInt8)) : IR m s ≤ m.fls.length := List.length_filter_le _ _
def dM (m : Md) (y : El) : Bool := if (!(WF m y.id)) = true then true else !(decide (y.id ∈ T4 m m.fls.length y.id []))
theorem R1 : (prog.info? 247).map (·.size) = some 1 := by kernel_rfl
theorem QS : (prog.info? 247).map (·.zero) = some (some (.nilFunc)) := by kernel_rfl
theorem gB (m : Md) (a : MdA) (ix : IxA) (gx gp g4 g5 gm g6 : Nat) (w0 : World) (ho : MdOk m) (hx : IxAt w0 m a ix gx) (hp : Blk w0 gp 155 [pg gx]) (h4 : Blk w0 g4 97 [.func (.func 136) #[] #[pg gp]]) (hS : ∀ k, (k = g5 ∨ k = gm) → w0.heap.size ≤ k) (hn6 : ¬ (g6 = g5 ∨ g6 = gm)) (N : Nat) (rc : List UInt8 → List (List UInt8) → List (List UInt8)) (hmono : ∀ k' s', IR m s' < N → IR m (rc k' s') ≤ IR m s')
 (hR : ∀ (k' : List UInt8) (s' : List (List UInt8)) (W : World), IR m s' < N → Fr0 w0 W → Fresh W g5 gm s' → Blk W g6 140 [.func (.func 138) #[] #[pg gp, pg g4, pg g5, pg g6]] → Calls prog 138 #[str k', pg gp, pg g4, pg g5, pg g6] W fun e W' => e = .returned (.tuple #[]) ∧ Fresh W' g5 gm (rc k' s') ∧ Fr (fun k => k = g5 ∨ k = gm) W W')
 (k : List UInt8) (s0 : List (List UInt8)) (w : World) (hN : IR m s0 ≤ N) (h0 : Fr0 w0 w) (hF : Fresh w g5 gm s0) (h6 : Blk w g6 140 [.func (.func 138) #[] #[pg gp, pg g4, pg g5, pg g6]]) :
 Calls prog 138 #[str k, pg gp, pg g4, pg g5, pg g6] w fun e w' => e = .returned (.tuple #[]) ∧ Fresh w' g5 gm (KK m rc (BI m.fls k) s0) ∧ Fr (fun k => k = g5 ∨ k = gm) w w' := by
 have hOl := DR m.fls k
 have hnf := ho.nfls
 refine sx_enter (vs := [_, _, _, _, _]) func138 rfl ntmps138 rfl ?_
 have M : Mem w (fun k => k = g5 ∨ k = gm) [As.fresh g5 gm s0] w := Mem.oneFresh hF
 refine srg (yl rfl rfl (Blk.c (hp.fr0 (D0 h0 M.fr hS)) 0 rfl) (AT rfl rfl (ya rfl (B6 rfl rfl (sc rfl) (Blk.c ((hx.fr0 (D0 h0 M.fr hS)).blk) 7 rfl)) (yb rfl (ya rfl (BF rfl rfl rfl underlying197 underlying9 zr_sl_api_Flow ((hx.fr0 (D0 h0 M.fr hS)).O) (hx.getO _)) (DA rfl rfl (AG rfl (sx_block (flp [14, 13, 4, 3, 2] (fun ze e wr mz => ∃ (i : Nat) (s : List (List UInt8)), e = (15, AA (i : Int)) :: ze ∧ Mem w (fun k => k = g5 ∨ k = gm) [As.fresh g5 gm s] wr ∧ (i ≤ (BI m.fls k).length) ∧ (IR m s ≤ N) ∧ (KK m rc (BI m.fls k) s0 = KK m rc ((BI m.fls k).drop i) s) ∧ mz = (BI m.fls k).length - i) ⟨0, s0, rfl, M, Nat.zero_le _, hN, rfl, rfl⟩ ?_)))))))))
 rintro _ w1 _ ⟨i, s, rfl, M, hi, hN, hE, rfl⟩
 refine srg (BH rfl rfl (nq (sx_seq (AF rfl (fun h16 => ?_) (fun h16 => ?_)))))
 ·have h16p := (odt h16)
  refine sx_skip (qx_seq (sx_seq (sx_block (srg ?_))))
  obtain ⟨u, hu⟩ := BN (l := (BI m.fls k)) (i := i) A0
  obtain ⟨b_u, o_u, hA_u⟩ := B8 (k := 4) A0 ((hx.fr0 (D0 h0 M.fr hS)).rdO _) hu
  refine ya rfl (AN i hA_u rfl rfl rfl (sl rfl) A0) (ya rfl (AI rfl rfl (BD Fl.len ((hx.fr0 (D0 h0 M.fr hS)).rdO _) hA_u hu) underlying109 rfl C5) (CV M rfl E5 fun g7 w2 hg7 M => C1 M 0 rfl rfl C5 rfl fun w3 M => EC (yl rfl rfl (Blk.c (h4.fr0 (D0 h0 M.fr hS)) 0 rfl) (yb rfl (AS M 0 rfl rfl rfl (ST M 22 rfl (BE rfl rfl rfl call136) (WT m a ix gx gp u.tg _ ho (hx.fr0 (D0 h0 M.fr hS)) (hp.fr0 (D0 h0 M.fr hS))) fun w4 M => yb rfl (fvm M 6 [7, 15, 14, 13, 4, 3, 2] [(29, .bool ((WF m u.tg) && (!(decide (u.tg ∈ s)))))] ?_ (fun k23 => ?_))))))))
  ·intro w5 M
   refine nq (AF rfl (fun h29 => ?_) (fun h29 => ?_))
   ·have h29p := (And.intro (BX h29).1 (BO (BX h29).2))
    have hlt := bJ (m := m) (s := s) (List.mem_of_getElem? hu) (BO (BX h29).2)
    refine srg (yl rfl rfl (Blk.c (M.freshC 1 rfl) 0 rfl) (yb rfl (AS M 0 rfl rfl rfl (UH M 1 (wn_none rfl) rfl rfl rfl rfl rfl underlying92 underlying9 rfl fun w6 M => nq (sx_region (yl rfl rfl (Blk.c (h6.fr M.fr hn6) 0 rfl) (yb rfl (AS M 0 rfl rfl rfl (cl 36 rfl (BE rfl rfl rfl call138) (hR u.tg (u.tg :: s) _ (Nat.lt_of_lt_of_le hlt hN) (D0 h0 M.fr hS) (M.freshF 1 rfl) (h6.fr M.fr hn6)) ?_)))))))))
    rintro _ w7 ⟨rfl, hFw7, hfw7⟩
    have M := M.updFresh 1 rfl hFw7 hfw7
    refine ⟨_, rfl, sxl_nil (qx_block_normal (qx_seq (sx_region (BT rfl rfl (yb rfl (sxl_nil (fag ⟨i + 1, (rc u.tg (u.tg :: s)), rfl, (M.pk [1]), ?_, ?_, ?_, rfl⟩)))))))⟩
    ·omega
    ·first
      | exact Nat.le_trans (hmono _ _ (Nat.lt_of_lt_of_le hlt hN)) (Nat.le_trans (Nat.le_of_lt hlt) hN)
      | exact hN
    ·rw [hE, B2 hu, KK]
     first
      | rw [if_pos h29]
      | rw [AR h29]
   ·have h29p := ((D8 h29).imp (fun z => z) (fun z => (BC z)))
    refine sx_skip (qx_block_normal (qx_seq (sx_region (BT rfl rfl (yb rfl (sxl_nil (fag ⟨i + 1, s, rfl, (M.pk [1]), ?_, ?_, ?_, rfl⟩)))))))
    ·omega
    ·first
      | exact Nat.le_trans (hmono _ _ (Nat.lt_of_lt_of_le hlt hN)) (Nat.le_trans (Nat.le_of_lt hlt) hN)
      | exact hN
    ·rw [hE, B2 hu, KK]
     first
      | rw [if_pos h29]
      | rw [AR h29]
  refine AD (d := 23) rfl (fun h23 => ?_) (fun h23 => ?_)
  ·exact ym rfl rfl (Blk.c (M.freshC 1 rfl) 0 rfl) (gyq rfl (C3 M 0 rfl rfl rfl (yd rfl (T3 rfl rfl rfl underlying92 underlying9 LQ (M.freshF 1 rfl)) (gyq rfl (yb rfl (k23 M ⟨rfl, rfl, rfl, rfl, rfl, rfl, rfl, (by rw [h23]; rfl), trivial⟩))))))
  ·iterate 5 refine yo rfl ?_
   exact yb rfl (k23 M ⟨rfl, rfl, rfl, rfl, rfl, rfl, rfl, (by rw [h23]; rfl), trivial⟩)
 ·have h16p := (odf h16)
  refine sx_exit (qx_then_exit (qx_then_exit (qx_block_hit (qx_ret0 (Or.inr rfl) rfl ?_))))
  obtain rfl : i = (BI m.fls k).length := by omega
  exact ⟨rfl, by rw [hE, List.drop_length]; exact M.ok 0 _ rfl, M.fr⟩
theorem ZP (m : Md) (a : MdA) (ix : IxA) (gx gp g4 g5 gm g6 : Nat) (w0 : World) (ho : MdOk m) (hx : IxAt w0 m a ix gx) (hp : Blk w0 gp 155 [pg gx]) (h4 : Blk w0 g4 97 [.func (.func 136) #[] #[pg gp]]) (hS : ∀ k, (k = g5 ∨ k = gm) → w0.heap.size ≤ k) (hn6 : ¬ (g6 = g5 ∨ g6 = gm)) : ∀ (N : Nat) (k : List UInt8) (s0 : List (List UInt8)) (w : World), IR m s0 ≤ N → Fr0 w0 w → Fresh w g5 gm s0 → Blk w g6 140 [.func (.func 138) #[] #[pg gp, pg g4, pg g5, pg g6]] →
 Calls prog 138 #[str k, pg gp, pg g4, pg g5, pg g6] w fun e w' => e = .returned (.tuple #[]) ∧ Fresh w' g5 gm (T4 m N k s0) ∧ Fr (fun k => k = g5 ∨ k = gm) w w'
 | 0, k, s0, w, hN, h0, hF, h6 => VQ m 0 k s0 ▸ gB m a ix gx gp g4 g5 gm g6 w0 ho hx hp h4 hS hn6 0 (o3 m 0) (aK m 0) (fun _ _ _ h => by omega) k s0 w hN h0 hF h6
 | N + 1, k, s0, w, hN, h0, hF, h6 => VQ m (N + 1) k s0 ▸ gB m a ix gx gp g4 g5 gm g6 w0 ho hx hp h4 hS hn6 (N + 1) (o3 m (N + 1)) (aK m (N + 1)) (fun k' s' W h h0' hF' h6' => ZP m a ix gx gp g4 g5 gm g6 w0 ho hx hp h4 hS hn6 N k' s' W A0 h0' hF' h6') k s0 w hN h0 hF h6
theorem jU (m : Md) (a : MdA) (ix : IxA) (gx gp g4 : Nat) (y : El) (w : World) (ho : MdOk m) (hx : IxAt w m a ix gx) (hp : Blk w gp 155 [pg gx]) (h4 : Blk w g4 97 [.func (.func 136) #[] #[pg gp]]) :
 Calls prog 137 #[.agg y.cells.toArray, pg g4, pg gp] w (BM w (.bool (dM m y))) := by
 refine BK func137 ntmps137 rfl fun M => srg (D7 M rfl rfl fun g3 w1 hg3 M => AG rfl (sx_seq (srg (yl rfl rfl (Blk.c (h4.fr0 M.fr) 0 rfl) (yb rfl (AS M 0 rfl rfl rfl (ST M 10 rfl (BE rfl rfl rfl call136) (WT m a ix gx gp y.id _ ho (hx.fr0 M.fr) (hp.fr0 M.fr)) fun w2 M => yb rfl ?_)))))))
 refine nq (AF rfl (fun h11 => ?_) (fun h11 => ?_))
 ·exact AC rfl (gnr (qx_then_ret (gr1 rfl ⟨by rw [dM, if_pos h11], M.fr⟩)))
 ·have h11p := (BC h11)
  refine sx_skip (qx_seq (srg (HJ M (wn_none rfl) rfl rfl rfl fun g12 w3 hg12 M => E7 M (wn_none rfl) rfl rfl 92 rfl [.map none] GA rfl fun g5 w4 hg5 M => gp1 M 0 rfl rfl rfl GC fun w5 M => EC (E7 M (wn_none rfl) rfl rfl 140 rfl [.nilFunc] QS rfl fun g6 w6 hg6 M => ?_))))
  refine EC (ya rfl (CB (us := []) (vs := [pg gp, pg g4, pg g5, pg g6]) rfl rfl rfl) (DV (cs' := [.func (.func 138) #[] #[pg gp, pg g4, pg g5, pg g6]]) M 0 (wn_none rfl) rfl rfl rfl rfl rfl rfl rfl R1 (C4 rfl) rfl fun w7 M => EC (AS M 0 rfl rfl rfl (yb rfl (AS M 3 rfl rfl rfl ?_)))))
  have M := Mem.join2 (M.pk [1, 2, 0, 3]) (As.fresh g5 g12 []) ⟨M.blk 1 rfl, M.neMp 1 2 rfl rfl AY, [], M.mp 2 rfl, fun _ => by simp [BP]⟩ (fun g hg => by simpa [As.fresh, As.blk, As.mp] using hg)
  have hSn := M.newF 0 rfl
  have h6n := M.neFresh 1 0 rfl rfl AY
  refine cl 17 rfl (BE rfl rfl rfl call138) (ZP m a ix gx gp g4 g5 g12 g6 w ho hx hp h4 hSn h6n m.fls.length y.id [] _ (m8 m []) M.fr (M.freshF 0 rfl) (M.blk 1 rfl)) ?_
  rintro _ w8 ⟨rfl, hFw8, hfw8⟩
  have M := M.updFresh 0 rfl hFw8 hfw8
  exact ⟨_, rfl, EC (yl rfl rfl (Blk.c (M.freshC 0 rfl) 0 rfl) (yb rfl (AS M 2 rfl rfl rfl (ya rfl (T3 rfl rfl rfl underlying92 underlying9 LQ (M.freshF 0 rfl)) (AT rfl rfl (gnr (gr1 rfl ⟨by rw [dM, AR h11], M.fr⟩)))))))⟩
theorem jT (m : Md) (a : MdA) (ix : IxA) (gx : Nat) (w : World) (ho : MdOk m) (hx : IxAt w m a ix gx) :
 Calls prog 74 #[pg gx] w (BM w (J4 (ffE (dM m) m.els))) := by
 refine BK func74 ntmps74 rfl fun M => srg (D3 M (wn_none rfl) rfl rfl 155 rfl rfl ([pg gx]) rfl fun g1 w1 hg1 M => yb rfl (AG rfl (srg (ya rfl (CB (us := []) (vs := [pg g1]) rfl rfl rfl) (E7 M (wn_none rfl) rfl rfl 97 rfl [.nilFunc] FV rfl fun g4 w2 hg4 M => DV (cs' := [.func (.func 136) #[] #[pg g1]]) M 0 (wn_none rfl) rfl rfl rfl rfl rfl rfl rfl G0 (C4 rfl) rfl fun w3 M => ?_)))))
 refine EC (AS M 1 rfl rfl rfl (AT rfl rfl (yb rfl (yl rfl rfl (Blk.c ((hx.fr0 M.fr).blk) 3 rfl) (ya rfl (CB (us := []) (vs := [pg g4, pg g1]) rfl rfl rfl) (DH M 12 rfl rfl call110 (I9 _ _ m.els (by have := ho.nfls; have := ho.nels; have := ho.nvars; omega) 137 [pg g4, pg g1] (dM m) _ (G5 call137 (fun z hz w9 hf9 => jU m a ix gx g1 g4 z w9 ho ((hx.fr0 M.fr).fr0 hf9) ((M.blk 1 rfl).fr0 hf9) ((M.blk 0 rfl).fr0 hf9))) (M.rd hx.md.els)) fun w4 M => ?_))))))
 iterate 4 refine yb rfl ?_
 exact gnr (BR rfl rfl rfl ⟨congrArg Ending.returned (S3 _ _), M.fr⟩)
end Go.Proofs.YtaheakjfkpkefaaGreatDoor
