/- Lemmas that the last text rests on. Condition: each says its own. -/
import Derived.Test.YtaheakjfkpkefaaGreatDoorYRu7
import Derived.Test.YtaheakjfkpkefaaGreatDoorYMv2
set_option maxHeartbeats 16000000
set_option maxRecDepth 100000
namespace Go.Proofs.YtaheakjfkpkefaaGreatDoor
open Go.RowKit
open Tryz
theorem Mem.freshF {w0 w : World} {S : Nat → Prop} {L : List As} (M : Mem w0 S L w) (i : Nat) {g3 g6 : Nat} {seen : List (List UInt8)} (hi : L[i]? = some (As.fresh g3 g6 seen)) : Fresh w g3 g6 seen := M.ok i _ hi
theorem Mem.freshC {w0 w : World} {S : Nat → Prop} {L : List As} (M : Mem w0 S L w) (i : Nat) {g3 g6 : Nat} {seen : List (List UInt8)} (hi : L[i]? = some (As.fresh g3 g6 seen)) : Blk w g3 92 [.map (some g6)] := (M.freshF i hi).1
theorem SZ {e : Env} {w : World} {o : Oper} {t kt el : TypeId} {x i : Operand} {g3 g6 : Nat} {k : List UInt8} {seen : List (List UInt8)} (ho : o.op = .lookup t x i false) (hx : ev e x = some (.map (some g6))) (hi : ev e i = some (str k)) (hu : prog.underlying t = some (.map kt el)) (hd : prog.underlying kt = some .string)
 (hz : (prog.info? el).map (·.zero) = some (some (.bool false))) (hF : Fresh w g3 g6 seen) : Y prog e o w (.bool (decide (k ∈ seen))) := by
 obtain ⟨_, _, L, hm, hL⟩ := hF
 exact BD ho hx hi hu hd hz hm (hL k)
theorem UD {Q : Exit → Act → World → Prop} {n : Nat} {e : Env} {w w0 : World} {S : Nat → Prop} {L : List As} {ops : Array Oper} {o : Oper} {rest : List Oper} (M : Mem w0 S L w) (i : Nat) (hw : Wn ops e o) (hd : o.dst = none) {t kt el g3 g6 : Nat} {mp ix x : Operand} {key : List UInt8} {seen : List (List UInt8)} (ho : o.op = .mapUpdate t mp ix x) (hm : ev e mp = some (.map (some g6))) (hx : ev e ix = some (str key)) (hv : ev e x = some (.bool true)) (hu : prog.underlying t = some (.map kt el)) (hk : prog.underlying kt = some .string)
 (hi : L[i]? = some (As.fresh g3 g6 seen)) (k : ∀ w', Mem w0 S (L.set i (As.fresh g3 g6 (key :: seen))) w' → SxL prog ops Q n rest e w') : SxL prog ops Q n (o :: rest) e w := by
 obtain ⟨hc, hne, K, hm', hL⟩ := M.freshF i hi
 refine sxl_does none hw hd rfl (fun ρ hρ => EJ ho (hρ _ _ hm) (hρ _ _ hx) (hρ _ _ hv) hu hk hm') ?_
 rintro _ w1 ⟨rfl, hf, hb⟩
 exact k w1 (M.updFresh i hi ⟨hc.fr hf hne, hne, _, hb, P2 hL⟩ (hf.mono fun _ _ e => .inr e))
def IV (m : Md) (s : List (List UInt8)) : Nat := (m.fls.filter fun f => !(decide (f.tg ∈ s))).length
theorem TR {α : Type} {p q : α → Bool} : ∀ l : List α, (∀ x ∈ l, q x = true → p x = true) → (l.filter q).length ≤ (l.filter p).length
 | [], _ => Nat.le_refl _
 | y :: t, h => by
  have h1 := TR t (fun x hx => h x (List.mem_cons_of_mem _ hx))
  rw [List.filter_cons, List.filter_cons]
  by_cases hy : q y = true
  ·rw [if_pos hy, if_pos (h y (by simp) hy), List.length_cons, List.length_cons]; omega
  ·rw [if_neg hy]
   split
   ·rw [List.length_cons]; omega
   ·exact h1
theorem TQ {α : Type} {p q : α → Bool} : ∀ {l : List α} {f : α}, f ∈ l → (∀ x ∈ l, q x = true → p x = true) → p f = true → q f = false → (l.filter q).length < (l.filter p).length
 | x :: r, f, hf, hpq, hp, hq => by
  rw [List.filter_cons, List.filter_cons]
  have h1 := TR r (fun x hx => hpq x (List.mem_cons_of_mem _ hx))
  rcases List.mem_cons.1 hf with rfl | hf
  ·rw [if_pos hp, if_neg (by rw [hq]; decide), List.length_cons]; omega
  ·have h2 := TQ hf (fun x hx => hpq x (List.mem_cons_of_mem _ hx)) hp hq
   by_cases hy : q x = true
   ·rw [if_pos hy, if_pos (hpq x (by simp) hy), List.length_cons, List.length_cons]; omega
   ·rw [if_neg hy]
    split
    ·rw [List.length_cons]; omega
    ·exact h2
theorem aO {m : Md} {s : List (List UInt8)} {k : List UInt8} {f : Fl} (hf : f ∈ BI m.fls k) (h : decide (f.tg ∈ s) = false) : IV m (f.tg :: s) < IV m s := by
 have hf' : f ∈ m.fls := (List.mem_filter.1 hf).1
 refine TQ hf' (fun x _ hx => ?_) (by rw [h]; rfl) (by simp)
 simp only [List.mem_cons, Bool.not_eq_true', decide_eq_false_iff_not] at hx ⊢
 exact fun z => hx (.inr z)
def KL (m : Md) (rc : List UInt8 → List (List UInt8) → List (List UInt8)) : List Fl → List (List UInt8) → List (List UInt8)
 | [], s => s
 | f :: r, s => if (W7 m f.tg && (!(decide (f.tg ∈ s)))) = true then KL m rc r (rc f.tg (f.tg :: s)) else KL m rc r s
theorem NG {m : Md} {N : Nat} {rc : List UInt8 → List (List UInt8) → List (List UInt8)} (hmono : ∀ k' s', IV m s' < N → IV m (rc k' s') ≤ IV m s') {k : List UInt8} : ∀ (l : List Fl) (s : List (List UInt8)), (∀ f ∈ l, f ∈ BI m.fls k) → IV m s ≤ N → IV m (KL m rc l s) ≤ IV m s
 | [], _, _, _ => Nat.le_refl _
 | f :: r, s, hl, hN => by
  rw [KL]
  split
  ·rename_i h
   have hlt := aO (s := s) (hl f (by simp)) (BY (BX h).2)
   have h1 := hmono f.tg (f.tg :: s) (Nat.lt_of_lt_of_le hlt hN)
   have h2 := NG hmono r (rc f.tg (f.tg :: s)) (fun x hx => hl x (List.mem_cons_of_mem _ hx)) A0
   omega
  ·exact NG hmono r s (fun x hx => hl x (List.mem_cons_of_mem _ hx)) hN
def T0 (m : Md) : Nat → List UInt8 → List (List UInt8) → List (List UInt8)
 | 0, k, s => KL m (fun _ s => s) (BI m.fls k) s
 | n + 1, k, s => KL m (T0 m n) (BI m.fls k) s
def n7 (m : Md) : Nat → List UInt8 → List (List UInt8) → List (List UInt8)
 | 0 => fun _ s => s
 | n + 1 => T0 m n
theorem VO (m : Md) (n : Nat) (k : List UInt8) (s : List (List UInt8)) : T0 m n k s = KL m (n7 m n) (BI m.fls k) s := by cases n <;> rfl
theorem VN (m : Md) : ∀ (n : Nat) (k : List UInt8) (s : List (List UInt8)), IV m s ≤ n → IV m (T0 m n k s) ≤ IV m s
 | 0, k, s, h => NG (N := 0) (fun _ _ h => by omega) (k := k) _ s (fun _ hf => hf) h
 | n + 1, k, s, h => NG (N := n + 1) (fun k' s' h' => VN m n k' s' A0) (k := k) _ s (fun _ hf => hf) h
theorem ZP (m : Md) (n : Nat) : ∀ (k : List UInt8) (s : List (List UInt8)), IV m s < n → IV m (n7 m n k s) ≤ IV m s := fun k s h => by
 cases n with
 | zero => omega
 | succ n => exact VN m n k s A0
theorem Mem.join2 {w0 w : World} {S : Nat → Prop} {L : List As} {a b : As} (M : Mem w0 S (a :: b :: L) w) (c : As) (hok : c.ok w) (hfp : ∀ g ∈ c.fp, g ∈ a.fp ∨ g ∈ b.fp) : Mem w0 S (c :: L) w := by
 have get : ∀ (i : Nat) (d : As), L[i]? = some d → (a :: b :: L)[i + 2]? = some d := fun i d h => h
 have fp : ∀ k, k ∈ c.fp → ∃ (i : Nat) (d : As), i < 2 ∧ (a :: b :: L)[i]? = some d ∧ k ∈ d.fp := fun k hk => by
  rcases hfp k hk with h | h
  ·exact ⟨0, _, by decide, rfl, h⟩
  ·exact ⟨1, _, by decide, rfl, h⟩
 refine ⟨M.fr, ?_, ?_, ?_⟩
 ·intro i d hi
  cases i with
  | zero => simp only [List.getElem?_cons_zero, Option.some.injEq] at hi; subst hi; exact hok
  | succ i => exact M.ok (i + 2) d (get i d (by simpa using hi))
 ·intro i d hi k hk
  cases i with
  | zero =>
   simp only [List.getElem?_cons_zero, Option.some.injEq] at hi; subst hi
   obtain ⟨j, e, _, h1, h2⟩ := fp k hk
   exact M.lt j e h1 k h2
  | succ i => exact M.lt (i + 2) d (get i d (by simpa using hi)) k hk
 ·intro i j d e hi hj hne k hk hk'
  cases i with
  | zero =>
   cases j with
   | zero => exact hne rfl
   | succ j =>
    simp only [List.getElem?_cons_zero, Option.some.injEq] at hi; subst hi
    obtain ⟨q, d', hq, h1, h2⟩ := fp k hk
    exact M.apart q (j + 2) d' e h1 (get j e (by simpa using hj)) A0 k h2 hk'
  | succ i =>
   cases j with
   | zero =>
    simp only [List.getElem?_cons_zero, Option.some.injEq] at hj; subst hj
    obtain ⟨q, d', hq, h1, h2⟩ := fp k hk'
    exact M.apart (i + 2) q d d' (get i d (by simpa using hi)) h1 A0 k hk h2
   | succ j => exact M.apart (i + 2) (j + 2) d e (get i d (by simpa using hi)) (get j e (by simpa using hj)) A0 k hk hk'
theorem lA (m : Md) (s : List (List UInt8)) : IV m s ≤ m.fls.length := List.length_filter_le _ _
def cO (m : Md) (y : El) : Bool := if (!(W7 m y.id)) = true then true else !(decide (y.id ∈ T0 m m.fls.length y.id []))
theorem QY : (prog.info? 247).map (·.size) = some 1 := by kernel_rfl
theorem QP : (prog.info? 247).map (·.zero) = some (some (.nilFunc)) := by kernel_rfl
theorem fB (m : Md) (a : MdA) (ix : IxA) (gx gp g4 g5 gm g6 : Nat) (w0 : World) (ho : MdOk m) (hx : IxAt w0 m a ix gx) (hp : Blk w0 gp 155 [pg gx]) (h4 : Blk w0 g4 97 [.func (.func 136) #[] #[pg gp]]) (hS : ∀ k, (k = g5 ∨ k = gm) → w0.heap.size ≤ k) (hn6 : ¬ (g6 = g5 ∨ g6 = gm)) (N : Nat) (rc : List UInt8 → List (List UInt8) → List (List UInt8)) (hmono : ∀ k' s', IV m s' < N → IV m (rc k' s') ≤ IV m s')
 (hR : ∀ (k' : List UInt8) (s' : List (List UInt8)) (W : World), IV m s' < N → Fr0 w0 W → Fresh W g5 gm s' → Blk W g6 140 [.func (.func 138) #[] #[pg gp, pg g4, pg g5, pg g6]] → Calls prog 138 #[str k', pg gp, pg g4, pg g5, pg g6] W fun e W' => e = .returned (.tuple #[]) ∧ Fresh W' g5 gm (rc k' s') ∧ Fr (fun k => k = g5 ∨ k = gm) W W')
 (k : List UInt8) (s0 : List (List UInt8)) (w : World) (hN : IV m s0 ≤ N) (h0 : Fr0 w0 w) (hF : Fresh w g5 gm s0) (h6 : Blk w g6 140 [.func (.func 138) #[] #[pg gp, pg g4, pg g5, pg g6]]) :
 Calls prog 138 #[str k, pg gp, pg g4, pg g5, pg g6] w fun e w' => e = .returned (.tuple #[]) ∧ Fresh w' g5 gm (KL m rc (BI m.fls k) s0) ∧ Fr (fun k => k = g5 ∨ k = gm) w w' := by
 have hOl := DR m.fls k
 have hnf := ho.nfls
 refine sx_enter (vs := [_, _, _, _, _]) func138 rfl ntmps138 rfl ?_
 have M : Mem w (fun k => k = g5 ∨ k = gm) [As.fresh g5 gm s0] w := Mem.oneFresh hF
 refine srg (yl rfl rfl (Blk.c (hp.fr0 (D4 h0 M.fr hS)) 0 rfl) (AV rfl rfl (ya rfl (B9 rfl rfl (sc rfl) (Blk.c ((hx.fr0 (D4 h0 M.fr hS)).blk) 7 rfl)) (yb rfl (ya rfl (BD rfl rfl rfl underlying197 underlying9 zr_sl_api_Flow ((hx.fr0 (D4 h0 M.fr hS)).O) (hx.getO _)) (DP rfl rfl (AG rfl (sx_block (flp [14, 13, 4, 3, 2] (fun ze e wr mz => ∃ (i : Nat) (s : List (List UInt8)), e = (15, AA (i : Int)) :: ze ∧ Mem w (fun k => k = g5 ∨ k = gm) [As.fresh g5 gm s] wr ∧ (i ≤ (BI m.fls k).length) ∧ (IV m s ≤ N) ∧ (KL m rc (BI m.fls k) s0 = KL m rc ((BI m.fls k).drop i) s) ∧ mz = (BI m.fls k).length - i) ⟨0, s0, rfl, M, Nat.zero_le _, hN, rfl, rfl⟩ ?_)))))))))
 rintro _ w1 _ ⟨i, s, rfl, M, hi, hN, hE, rfl⟩
 refine srg (BM rfl rfl (nq (sx_seq (AF rfl (fun h16 => ?_) (fun h16 => ?_)))))
 ·have h16p := (odt h16)
  refine sx_skip (qx_seq (sx_seq (sx_block (srg ?_))))
  obtain ⟨u, hu⟩ := BZ (l := (BI m.fls k)) (i := i) A0
  obtain ⟨b_u, o_u, hA_u⟩ := B7 (k := 4) A0 ((hx.fr0 (D4 h0 M.fr hS)).rdO _) hu
  refine ya rfl (AP i hA_u rfl rfl rfl (sl rfl) A0) (ya rfl (AH rfl rfl (BB Fl.len ((hx.fr0 (D4 h0 M.fr hS)).rdO _) hA_u hu) underlying109 rfl C4) (CO M rfl E9 fun g7 w2 hg7 M => C2 M 0 rfl rfl C4 rfl fun w3 M => EF (yl rfl rfl (Blk.c (h4.fr0 (D4 h0 M.fr hS)) 0 rfl) (yb rfl (B2 M 0 rfl rfl rfl (MC M 22 rfl (BC rfl rfl rfl call136) (WK m a ix gx gp u.tg _ ho (hx.fr0 (D4 h0 M.fr hS)) (hp.fr0 (D4 h0 M.fr hS))) fun w4 M => yb rfl (fvm M 6 [7, 15, 14, 13, 4, 3, 2] [(29, .bool ((W7 m u.tg) && (!(decide (u.tg ∈ s)))))] ?_ (fun k23 => ?_))))))))
  ·intro w5 M
   refine nq (AF rfl (fun h29 => ?_) (fun h29 => ?_))
   ·have h29p := (And.intro (BX h29).1 (BY (BX h29).2))
    have hlt := aO (m := m) (s := s) (List.mem_of_getElem? hu) (BY (BX h29).2)
    refine srg (yl rfl rfl (Blk.c (M.freshC 1 rfl) 0 rfl) (yb rfl (B2 M 0 rfl rfl rfl (UD M 1 (wn_none rfl) rfl rfl rfl rfl rfl underlying92 underlying9 rfl fun w6 M => nq (sx_region (yl rfl rfl (Blk.c (h6.fr M.fr hn6) 0 rfl) (yb rfl (B2 M 0 rfl rfl rfl (cl 36 rfl (BC rfl rfl rfl call138) (hR u.tg (u.tg :: s) _ (Nat.lt_of_lt_of_le hlt hN) (D4 h0 M.fr hS) (M.freshF 1 rfl) (h6.fr M.fr hn6)) ?_)))))))))
    rintro _ w7 ⟨rfl, hFw7, hfw7⟩
    have M := M.updFresh 1 rfl hFw7 hfw7
    refine ⟨_, rfl, sxl_nil (qx_block_normal (qx_seq (sx_region (C1 rfl rfl (yb rfl (sxl_nil (fag ⟨i + 1, (rc u.tg (u.tg :: s)), rfl, (M.pk [1]), ?_, ?_, ?_, rfl⟩)))))))⟩
    ·omega
    ·first
      | exact Nat.le_trans (hmono _ _ (Nat.lt_of_lt_of_le hlt hN)) (Nat.le_trans (Nat.le_of_lt hlt) hN)
      | exact hN
    ·rw [hE, B0 hu, KL]
     first
      | rw [if_pos h29]
      | rw [AS h29]
   ·have h29p := ((DA h29).imp (fun z => z) (fun z => (BJ z)))
    refine sx_skip (qx_block_normal (qx_seq (sx_region (C1 rfl rfl (yb rfl (sxl_nil (fag ⟨i + 1, s, rfl, (M.pk [1]), ?_, ?_, ?_, rfl⟩)))))))
    ·omega
    ·first
      | exact Nat.le_trans (hmono _ _ (Nat.lt_of_lt_of_le hlt hN)) (Nat.le_trans (Nat.le_of_lt hlt) hN)
      | exact hN
    ·rw [hE, B0 hu, KL]
     first
      | rw [if_pos h29]
      | rw [AS h29]
  refine AD (d := 23) rfl (fun h23 => ?_) (fun h23 => ?_)
  ·exact ym rfl rfl (Blk.c (M.freshC 1 rfl) 0 rfl) (gyq rfl (C3 M 0 rfl rfl rfl (yd rfl (SZ rfl rfl rfl underlying92 underlying9 LS (M.freshF 1 rfl)) (gyq rfl (yb rfl (k23 M ⟨rfl, rfl, rfl, rfl, rfl, rfl, rfl, (by rw [h23]; rfl), trivial⟩))))))
  ·iterate 5 refine yo rfl ?_
   exact yb rfl (k23 M ⟨rfl, rfl, rfl, rfl, rfl, rfl, rfl, (by rw [h23]; rfl), trivial⟩)
 ·have h16p := (odf h16)
  refine sx_exit (qx_then_exit (qx_then_exit (qx_block_hit (qx_ret0 (Or.inr rfl) rfl ?_))))
  obtain rfl : i = (BI m.fls k).length := by omega
  exact ⟨rfl, by rw [hE, List.drop_length]; exact M.ok 0 _ rfl, M.fr⟩
theorem Z8 (m : Md) (a : MdA) (ix : IxA) (gx gp g4 g5 gm g6 : Nat) (w0 : World) (ho : MdOk m) (hx : IxAt w0 m a ix gx) (hp : Blk w0 gp 155 [pg gx]) (h4 : Blk w0 g4 97 [.func (.func 136) #[] #[pg gp]]) (hS : ∀ k, (k = g5 ∨ k = gm) → w0.heap.size ≤ k) (hn6 : ¬ (g6 = g5 ∨ g6 = gm)) : ∀ (N : Nat) (k : List UInt8) (s0 : List (List UInt8)) (w : World), IV m s0 ≤ N → Fr0 w0 w → Fresh w g5 gm s0 → Blk w g6 140 [.func (.func 138) #[] #[pg gp, pg g4, pg g5, pg g6]] →
 Calls prog 138 #[str k, pg gp, pg g4, pg g5, pg g6] w fun e w' => e = .returned (.tuple #[]) ∧ Fresh w' g5 gm (T0 m N k s0) ∧ Fr (fun k => k = g5 ∨ k = gm) w w'
 | 0, k, s0, w, hN, h0, hF, h6 => VO m 0 k s0 ▸ fB m a ix gx gp g4 g5 gm g6 w0 ho hx hp h4 hS hn6 0 (n7 m 0) (ZP m 0) (fun _ _ _ h => by omega) k s0 w hN h0 hF h6
 | N + 1, k, s0, w, hN, h0, hF, h6 => VO m (N + 1) k s0 ▸ fB m a ix gx gp g4 g5 gm g6 w0 ho hx hp h4 hS hn6 (N + 1) (n7 m (N + 1)) (ZP m (N + 1)) (fun k' s' W h h0' hF' h6' => Z8 m a ix gx gp g4 g5 gm g6 w0 ho hx hp h4 hS hn6 N k' s' W A0 h0' hF' h6') k s0 w hN h0 hF h6
theorem iW (m : Md) (a : MdA) (ix : IxA) (gx gp g4 : Nat) (y : El) (w : World) (ho : MdOk m) (hx : IxAt w m a ix gx) (hp : Blk w gp 155 [pg gx]) (h4 : Blk w g4 97 [.func (.func 136) #[] #[pg gp]]) :
 Calls prog 137 #[.agg y.cells.toArray, pg g4, pg gp] w (BN w (.bool (cO m y))) := by
 refine BL func137 ntmps137 rfl fun M => srg (DD M rfl rfl fun g3 w1 hg3 M => AG rfl (sx_seq (srg (yl rfl rfl (Blk.c (h4.fr0 M.fr) 0 rfl) (yb rfl (B2 M 0 rfl rfl rfl (MC M 10 rfl (BC rfl rfl rfl call136) (WK m a ix gx gp y.id _ ho (hx.fr0 M.fr) (hp.fr0 M.fr)) fun w2 M => yb rfl ?_)))))))
 refine nq (AF rfl (fun h11 => ?_) (fun h11 => ?_))
 ·exact AC rfl (gnr (qx_then_ret (gr1 rfl ⟨by rw [cO, if_pos h11], M.fr⟩)))
 ·have h11p := (BJ h11)
  refine sx_skip (qx_seq (srg (HL M (wn_none rfl) rfl rfl rfl fun g12 w3 hg12 M => E4 M (wn_none rfl) rfl rfl 92 rfl [.map none] G7 rfl fun g5 w4 hg5 M => gp1 M 0 rfl rfl rfl GA fun w5 M => EF (E4 M (wn_none rfl) rfl rfl 140 rfl [.nilFunc] QP rfl fun g6 w6 hg6 M => ?_))))
  refine EF (ya rfl (CE (us := []) (vs := [pg gp, pg g4, pg g5, pg g6]) rfl rfl rfl) (CF (cs' := [.func (.func 138) #[] #[pg gp, pg g4, pg g5, pg g6]]) M 0 (wn_none rfl) rfl rfl rfl rfl rfl rfl rfl QY (BR rfl) rfl fun w7 M => EF (B2 M 0 rfl rfl rfl (yb rfl (B2 M 3 rfl rfl rfl ?_)))))
  have M := Mem.join2 (M.pk [1, 2, 0, 3]) (As.fresh g5 g12 []) ⟨M.blk 1 rfl, M.neMp 1 2 rfl rfl AU, [], M.mp 2 rfl, fun _ => by simp [BP]⟩ (fun g hg => by simpa [As.fresh, As.blk, As.mp] using hg)
  have hSn := M.newF 0 rfl
  have h6n := M.neFresh 1 0 rfl rfl AU
  refine cl 17 rfl (BC rfl rfl rfl call138) (Z8 m a ix gx gp g4 g5 g12 g6 w ho hx hp h4 hSn h6n m.fls.length y.id [] _ (lA m []) M.fr (M.freshF 0 rfl) (M.blk 1 rfl)) ?_
  rintro _ w8 ⟨rfl, hFw8, hfw8⟩
  have M := M.updFresh 0 rfl hFw8 hfw8
  exact ⟨_, rfl, EF (yl rfl rfl (Blk.c (M.freshC 0 rfl) 0 rfl) (yb rfl (B2 M 2 rfl rfl rfl (ya rfl (SZ rfl rfl rfl underlying92 underlying9 LS (M.freshF 0 rfl)) (AV rfl rfl (gnr (gr1 rfl ⟨by rw [cO, AS h11], M.fr⟩)))))))⟩
theorem iV (m : Md) (a : MdA) (ix : IxA) (gx : Nat) (w : World) (ho : MdOk m) (hx : IxAt w m a ix gx) :
 Calls prog 74 #[pg gx] w (BN w (J9 (ffE (cO m) m.els))) := by
 refine BL func74 ntmps74 rfl fun M => srg (DB M (wn_none rfl) rfl rfl 155 rfl rfl ([pg gx]) rfl fun g1 w1 hg1 M => yb rfl (AG rfl (srg (ya rfl (CE (us := []) (vs := [pg g1]) rfl rfl rfl) (E4 M (wn_none rfl) rfl rfl 97 rfl [.nilFunc] FU rfl fun g4 w2 hg4 M => CF (cs' := [.func (.func 136) #[] #[pg g1]]) M 0 (wn_none rfl) rfl rfl rfl rfl rfl rfl rfl FY (BR rfl) rfl fun w3 M => ?_)))))
 refine EF (B2 M 1 rfl rfl rfl (AV rfl rfl (yb rfl (yl rfl rfl (Blk.c ((hx.fr0 M.fr).blk) 3 rfl) (ya rfl (CE (us := []) (vs := [pg g4, pg g1]) rfl rfl rfl) (DV M 12 rfl rfl call110 (IA _ _ m.els (by have := ho.nfls; have := ho.nels; have := ho.nvars; omega) 137 [pg g4, pg g1] (cO m) _ (G3 call137 (fun z hz w9 hf9 => iW m a ix gx g1 g4 z w9 ho ((hx.fr0 M.fr).fr0 hf9) ((M.blk 1 rfl).fr0 hf9) ((M.blk 0 rfl).fr0 hf9))) (M.rd hx.md.els)) fun w4 M => ?_))))))
 iterate 4 refine yb rfl ?_
 exact gnr (BS rfl rfl rfl ⟨congrArg Ending.returned (RY _ _), M.fr⟩)
def tR : List Value := [.func (.func 66) #[] #[], .func (.func 67) #[] #[], .func (.func 68) #[] #[], .func (.func 69) #[] #[], .func (.func 70) #[] #[], .func (.func 71) #[] #[], .func (.func 72) #[] #[], .func (.func 73) #[] #[], .func (.func 74) #[] #[]]
def PD (m : Md) : List (Option (List UInt8)) := [FA m, ffE (U8 m) m.els, ffF (KW m) m.fls, ffE (J3 m) m.els, aJ m, VY m, ffE (K5 m) m.els, ffE (N1 m) m.els, ffE (cO m) m.els]
theorem sB (m : Md) (a : MdA) (ix : IxA) (gx : Nat) (hb : MdB m) : ∀ i, i < 9 → (i = 0 ∨ MdOk m) → ∃ fd b, tR[i]? = some (.func (.func fd) #[] #[]) ∧ (PD m)[i]? = some b ∧ (∀ (ar : Array Value) (w : World), (callFunc fd ar).run prog w = .ok (.enter fd ar) w) ∧
 ∀ W, IxAt W m a ix gx → Lay0 W → Calls prog fd #[pg gx] W (BN W (.tuple #[str (b.getD []), .bool b.isSome])) := by
 intro i hi hk
 have ho : i ≠ 0 → MdOk m := fun h => hk.resolve_left h
 match i, hi with
 | 0, _ => exact ⟨_, _, rfl, rfl, call66, fun W hx hY => nM m a ix gx W hb hx hY⟩
 | 1, _ => exact ⟨_, _, rfl, rfl, call67, fun W hx _ => mK m a ix gx W (ho AU) hx⟩
 | 2, _ => exact ⟨_, _, rfl, rfl, call68, fun W hx _ => bL m a ix gx W (ho AU) hx⟩
 | 3, _ => exact ⟨_, _, rfl, rfl, call69, fun W hx _ => kG m a ix gx W (ho AU) hx⟩
 | 4, _ => exact ⟨_, _, rfl, rfl, call70, fun W hx _ => kK m a ix gx W (ho AU) hx⟩
 | 5, _ => exact ⟨_, _, rfl, rfl, call71, fun W hx hY => mW m a ix gx W (ho AU) hx hY⟩
 | 6, _ => exact ⟨_, _, rfl, rfl, call72, fun W hx _ => bW m a ix gx W (ho AU) hx⟩
 | 7, _ => exact ⟨_, _, rfl, rfl, call73, fun W hx _ => dX m a ix gx W (ho AU) hx⟩
 | 8, _ => exact ⟨_, _, rfl, rfl, call74, fun W hx _ => iV m a ix gx W (ho AU) hx⟩
 | i + 9, hi => omega
def GU : Nat → List (Option (List UInt8)) → Nat × List UInt8 × Int
 | _, [] => (0, [], 0)
 | i, some k :: _ => (i + 1, k, 140)
 | i, none :: r => GU (i + 1) r
theorem SX {i : Nat} {b : Option (List UInt8)} {r : List (Option (List UInt8))} (h : b.isSome = false) : GU i (b :: r) = GU (i + 1) r := by
 cases b with
 | none => rfl
 | some k => cases h
theorem SW {i : Nat} {b : Option (List UInt8)} {r : List (Option (List UInt8))} (h : b.isSome = true) : GU i (b :: r) = (i + 1, b.getD [], 140) := by
 cases b with
 | none => cases h
 | some k => rfl
theorem pS {m : Md} (hb : MdB m) {i : Nat} {b : Option (List UInt8)} (hk : i = 0 ∨ MdOk m) (h : (PD m)[i]? = some b) (hn : b.isSome = false) : i + 1 = 0 ∨ MdOk m := by
 rcases hk with rfl | hk
 ·right
  injection h with h
  subst h
  have hq : OU m = false := by
   cases hq : OU m with
   | false => rfl
   | true => rw [FA, if_pos hq] at hn; cases hn
  have h1 := (BT hq).1
  have a1 := odf (BT (BT h1).1).2
  have a2 := odf (BT h1).2
  have a3 := odf (BT hq).2
  exact ⟨hb.id, hb.nm, hb.vars, by omega, by omega, by omega, hb.els, hb.fls⟩
 ·exact .inr hk
def KM (m : Md) : Nat × List UInt8 × Int := GU 0 (PD m)
theorem iS {m : Md} (hb : MdB m) (h : (KM m).2.2 = 0) : MdOk m := by
 have h0 : (FA m).isSome = false := by
  cases hq : FA m with
  | none => rfl
  | some k =>
   have : (KM m).2.2 = 140 := by unfold KM PD; rw [hq]; rfl
   rw [this] at h; cases h
 exact (pS hb (i := 0) (.inl rfl) rfl h0).resolve_left AU
theorem P0 : (prog.info? 159).map (fun i => (i.zero, i.size)) = some (some (.nilFunc), 1) := by kernel_rfl
theorem UH (m : Md) (a : MdA) (w : World) (ho : MdB m) (hM : MdIn w m a) (hY : Lay0 w) :
 Calls prog 38 #[.agg (Md.cells m a).toArray] w (BN w (.tuple #[AA (((KM m).1 : Nat) : Int), str (KM m).2.1, AA (KM m).2.2])) := by
 refine BL func38 ntmps38 rfl fun M => srg (DD M rfl rfl fun g1 w1 hg1 M => AV rfl rfl (AG rfl (srg (DO M 0 rfl rfl underlying62 B6 rfl (cl 11 rfl (AE rfl rfl call65) (RM m a _ ho (hM.fr0 M.fr)) ?_)))))
 rintro _ w2 ⟨ix, gx, FX, rfl, hix, hnx, hfw2⟩
 refine ⟨_, rfl, ?_⟩
 have M := M.push hfw2 (As.ixp m a ix gx FX) hix hnx
 refine AG rfl (sx_seq (srg (CU M (wn_none rfl) rfl rfl [.func (.func 66) #[] #[], .func (.func 67) #[] #[], .func (.func 68) #[] #[], .func (.func 69) #[] #[], .func (.func 70) #[] #[], .func (.func 71) #[] #[], .func (.func 72) #[] #[], .func (.func 73) #[] #[], .func (.func 74) #[] #[]] ([.func (.func 66) #[] #[], .func (.func 67) #[] #[], .func (.func 68) #[] #[], .func (.func 69) #[] #[], .func (.func 70) #[] #[], .func (.func 71) #[] #[], .func (.func 72) #[] #[], .func (.func 73) #[] #[], .func (.func 74) #[] #[]]) rfl rfl rfl rfl underlying158 P0 rfl rfl (by intro v hv; simp only [List.mem_cons, List.not_mem_nil, or_false] at hv; rcases hv with rfl | rfl | rfl | rfl | rfl | rfl | rfl | rfl | rfl <;> rfl) rfl fun g12 w3 hg12 M => DP rfl rfl (AG rfl (sx_block (MX M [13, 12, 5] (fun ze zF e wr mz => ∃ (i : Nat), e = (14, AA (i : Int)) :: ze ∧ zF wr ∧ (i ≤ 9) ∧ (GU 0 (PD m) = GU i ((PD m).drop i)) ∧ (i = 0 ∨ MdOk m) ∧ mz = 9 - i) ⟨0, rfl, M, Nat.zero_le _, rfl, .inl rfl, rfl⟩ ?_))))))
 rintro _ w4 _ ⟨i, rfl, M, hi, hE, hk, rfl⟩
 refine srg (BM rfl rfl (nq (sx_seq (AF rfl (fun h15 => ?_) (fun h15 => ?_)))))
 ·have h15p := (odt h15)
  have hil : i < 9 := by omega
  refine sx_skip (qx_seq (sx_seq (sx_block (AC rfl ?_))))
  obtain ⟨fd, b, hfd, hbk, hen, hcl⟩ := sB m a ix gx ho i hil hk
  refine ya rfl (KT (j := i) rfl rfl rfl (sl rfl) A0) (yl rfl rfl (Blk.c (M.blk 0 rfl) (0 + i * 1) (by rw [Nat.zero_add, Nat.mul_one]; exact hfd)) (yb rfl (AG rfl (AC rfl (yb rfl (MC M 22 rfl (BC rfl rfl rfl hen) (hcl _ (IxN.at (M.ok 1 _ rfl) (hM.fr0 M.fr)) (hY.fr0 M.fr)) fun w5 M => ?_))))))
  iterate 5 refine yb rfl ?_
  refine EF (AG rfl (AF rfl (fun h25 => ?_) (fun h25 => ?_)))
  ·refine AC rfl (C1 rfl rfl ?_)
   iterate 4 refine yb rfl ?_
   exact gnr (qx_block_ret (qx_then_ret (qx_then_ret (qx_block_ret (qx_then_ret (QC rfl rfl rfl rfl ⟨by rw [KM, hE, B0 hbk, SW h25] <;> rfl, M.fr⟩))))))
  ·refine sx_skip (qx_block_normal (qx_seq (sx_region (C1 rfl rfl (yb rfl (sxl_nil (fag ⟨i + 1, rfl, M, ?_, ?_, ?_, rfl⟩)))))))
   ·omega
   ·rw [hE, B0 hbk, SX h25]
   ·exact pS ho hk hbk h25
 ·have h15p := (odf h15)
  refine sx_exit (qx_then_exit (qx_then_exit ?_))
  obtain rfl : i = 9 := by omega
  exact qx_block_hit (qx_seq (AC rfl (AV rfl rfl (gnr (QC rfl rfl rfl rfl ⟨by rw [KM, hE]; rfl, M.fr⟩)))))
section
def MpS (w : World) (g : Nat) (L : List (List UInt8 × Value)) : Option (List UInt8 × Nat) → Prop
 | none => MpB w g L
 | some (k, b) => EntAt w g L k b
theorem MpS.keep {w w' : World} {g : Nat} {L : List (List UInt8 × Value)} {st : Option (List UInt8 × Nat)} (hk : g < w.heap.size → w'.heap[g]? = w.heap[g]?) (h : MpS w g L st) : MpS w' g L st := by
 cases st with
 | none => exact MpB.keep hk h
 | some p => obtain ⟨k, b⟩ := p; exact EntAt.keep hk h
def As.mpS (g : Nat) (L : List (List UInt8 × Value)) (st : Option (List UInt8 × Nat)) : As := ⟨[g], fun w => MpS w g L st, fun h hb => hb.keep (h g (by simp))⟩
structure RowS (w : World) (g : Nat) (L : List (List UInt8 × Value)) (st : Option (List UInt8 × Nat)) (rows : List UInt8 → List (List UInt8)) (F : List Nat) : Prop where
 map : MpS w g L st
 gF : ¬ g ∈ F
 row : ∀ k, ∃ A C, ED L k = .slice A (rows k).length C ∧ Rd w A ((rows k).length * 1) (AB BK (rows k)) ∧ ∀ b off p, A = some ⟨b, off, p⟩ → b ∈ F
theorem RowS.keep {w w' : World} {g : Nat} {L : List (List UInt8 × Value)} {st : Option (List UInt8 × Nat)} {rows : List UInt8 → List (List UInt8)} {F : List Nat} (hk : ∀ x ∈ g :: F, x < w.heap.size → w'.heap[x]? = w.heap[x]?) (h : RowS w g L st rows F) : RowS w' g L st rows F :=
 ⟨h.map.keep (hk g (by simp)), h.gF, fun k => by
  obtain ⟨A, C, h1, h2, h3⟩ := h.row k
  exact ⟨A, C, h1, GR h2 (fun x hx => hk x (List.mem_cons_of_mem _ hx)) h3, h3⟩⟩
def As.rowS (g : Nat) (L : List (List UInt8 × Value)) (st : Option (List UInt8 × Nat)) (rows : List UInt8 → List (List UInt8)) (F : List Nat) : As := ⟨g :: F, fun w => RowS w g L st rows F, fun h hb => hb.keep h⟩
def As.both (a b : As) : As := ⟨a.fp ++ b.fp, fun w => a.ok w ∧ b.ok w, fun h hb => ⟨a.keep (fun g hg => h g (List.mem_append_left _ hg)) hb.1, b.keep (fun g hg => h g (List.mem_append_right _ hg)) hb.2⟩⟩
section
variable {w0 w w' : World} {S : Nat → Prop} {Ls : List As} {g b : Nat} {L L' : List (List UInt8 × Value)} {k : List UInt8} {rows : List UInt8 → List (List UInt8)} {F : List Nat} {st : Option (List UInt8 × Nat)}
theorem o1 (w : World) : MpB (w.alloc (.map #[] 0)) w.heap.size [] := ⟨#[], 0, by show (w.heap.push (.map #[] 0))[w.heap.size]? = _; simp, rfl, by simp, by simp⟩
theorem QZ {P : Program} {Q : Exit → Act → World → Prop} {n : Nat} {e : Env} {ops : Array Oper} {o : Oper} {rest : List Oper} (M : Mem w0 S Ls w) {d t : Nat} (hw : Wn ops e o) (hd : o.dst = some d) (hn : Nat.blt d n = true) (ho : o.op = .makeMap t none)
 (k : ∀ g w', w.heap.size ≤ g → Mem w0 S (As.mpS g [] none :: Ls) w' → SxL P ops Q n rest ((d, .map (some g)) :: e) w') : SxL P ops Q n (o :: rest) e w := by
 refine sxl_does (some d) hw hd hn (fun ρ hρ => S0 ho) ?_
 rintro _ w1 ⟨rfl, rfl⟩
 exact k _ _ (Nat.le_refl _) (M.push (Fr.refl.alloc _) _ (o1 w) (fun g' hg' => by simp only [As.mpS, List.mem_singleton] at hg'; subst hg'; simp))
theorem Mem.mpS (M : Mem w0 S Ls w) (i : Nat) (hi : Ls[i]? = some (As.mpS g L st)) : MpS w g L st := M.ok i _ hi
theorem Mem.rowS (M : Mem w0 S Ls w) (i : Nat) (hi : Ls[i]? = some (As.rowS g L st rows F)) : RowS w g L st rows F := M.ok i _ hi
theorem Mem.toRow (M : Mem w0 S Ls w) (i : Nat) (hi : Ls[i]? = some (As.mpS g [] none)) : Mem w0 S (Ls.set i (As.rowS g [] none (fun _ => []) [])) w :=
 M.upd i hi Fr.refl _ (show RowS w g [] none (fun _ => []) [] from ⟨M.ok i _ hi, by simp, fun k => ⟨none, 0, by simp [ED, BP], Rd.nil, fun b off p h => by cases h⟩⟩) (fun _ hg' => .inl hg')
theorem Mem.entA (M : Mem w0 S Ls w) (i : Nat) (hi : Ls[i]? = some (As.mpS g L none)) (hf : Fr (fun x => x = g) w w') (hE : EntAt w' g L' k b) : Mem w0 S (Ls.set i (As.mpS g L' (some (k, b)))) w' :=
 M.upd i hi (hf.mono fun k _ e => by simp only [As.mpS, List.mem_singleton]; exact e) (As.mpS g L' (some (k, b))) hE (fun _ hg' => .inl hg')
theorem Mem.putA (M : Mem w0 S Ls w) (i : Nat) (hi : Ls[i]? = some (As.mpS g L (some (k, b)))) (hf : Fr (fun x => x = g) w w') (hE : MpB w' g L') : Mem w0 S (Ls.set i (As.mpS g L' none)) w' :=
 M.upd i hi (hf.mono fun k _ e => by simp only [As.mpS, List.mem_singleton]; exact e) (As.mpS g L' none) hE (fun _ hg' => .inl hg')
theorem Mem.entR (M : Mem w0 S Ls w) (i : Nat) (hi : Ls[i]? = some (As.rowS g L none rows F)) (hf : Fr (fun x => x = g) w w') (hE : EntAt w' g (CK L k ((BP L k).getD (.slice none 0 0))) k b) : Mem w0 S (Ls.set i (As.rowS g (CK L k ((BP L k).getD (.slice none 0 0))) (some (k, b)) rows F)) w' := by
 have h : RowS w g L none rows F := M.ok i _ hi
 refine M.upd i hi (hf.mono fun k _ e => by rw [e]; exact List.mem_cons_self) _ (show RowS w' g _ (some (k, b)) rows F from ⟨hE, h.gF, fun k' => ?_⟩) (fun _ hg' => .inl hg')
 obtain ⟨A, C, h1, h2, h3⟩ := h.row k'
 refine ⟨A, C, ?_, GR h2 (fun x hx hl => hf.block x hl (fun e => h.gF (e ▸ hx))) h3, h3⟩
 rw [IK]
 by_cases hk : k' = k
 ·subst hk; rw [if_pos rfl]; exact h1
 ·rw [if_neg hk]; exact h1
theorem Mem.putR {base T n C : Nat} {A : Option Addr} {l : List (List UInt8)} (M : Mem w0 S (As.own base T 1 (.slice A n C) n (AB BK l) :: As.rowS g L (some (k, b)) rows F :: Ls) w) (hf : Fr (fun x => x = g) w w') (hE : MpB w' g (CK L k (.slice A n C))) (hn : n = l.length) :
 ∃ F', Mem w0 S (As.rowS g (CK L k (.slice A n C)) none (fun k' => if k' = k then l else rows k') F' :: Ls) w' := by
 have ho := M.own 0 rfl
 have h : RowS w g L (some (k, b)) rows F := M.ok 1 _ rfl
 have hap : ∀ x ∈ (Value.slice A n C).ownBlock.toList, ¬ x ∈ g :: F := fun x hx => M.apart 0 1 _ _ rfl rfl AU x hx
 have M1 := M.joinFam (As.both (As.own base T 1 (.slice A n C) n (AB BK l)) (As.rowS g L (some (k, b)) rows F)) ⟨ho, h⟩ (fun x hx => List.mem_append.1 hx)
 have hA : ∀ b off p, A = some ⟨b, off, p⟩ → b ∈ (Value.slice A n C).ownBlock.toList := fun b off p e => by subst e; simp [Value.ownBlock]
 refine ⟨(Value.slice A n C).ownBlock.toList ++ F, M1.upd 0 rfl (hf.mono fun x _ e => by rw [e]; exact List.mem_append_right _ List.mem_cons_self) _ (show RowS w' g _ none _ _ from ⟨hE, ?_, fun k' => ?_⟩) ?_⟩
 ·intro hh
  rcases List.mem_append.1 hh with hh | hh
  ·exact hap g hh List.mem_cons_self
  ·exact h.gF hh
 ·rw [IK]
  by_cases hk : k' = k
  ·subst hk
   simp only [if_pos]
   rw [hn] at ho hA ⊢
   refine ⟨A, C, rfl, GR (K7 ho) (F := (Value.slice A l.length C).ownBlock.toList) (fun x hx hl => hf.block x hl (fun e => hap x (hn ▸ hx) (by rw [e]; exact List.mem_cons_self))) hA, fun b off p e => List.mem_append_left _ (hA b off p e)⟩
  ·simp only [if_neg hk]
   obtain ⟨A', C', h1, h2, h3⟩ := h.row k'
   exact ⟨A', C', h1, GR h2 (fun x hx hl => hf.block x hl (fun e => h.gF (e ▸ hx))) h3, fun b off p e => List.mem_append_right _ (h3 b off p e)⟩
 ·intro x hx
  left
  rcases List.mem_cons.1 (show x ∈ g :: ((Value.slice A n C).ownBlock.toList ++ F) from hx) with rfl | hx
  ·exact List.mem_append_right _ List.mem_cons_self
  ·rcases List.mem_append.1 hx with hx | hx
   ·exact List.mem_append_left _ hx
   ·exact List.mem_append_right _ (List.mem_cons_of_mem _ hx)
theorem Mem.mdN {m : Md} {a : MdA} (M : Mem w0 S Ls w) (i : Nat) (hi : Ls[i]? = some (As.mdp m a F)) : MdN w m a F := M.ok i _ hi
end
end
end Go.Proofs.YtaheakjfkpkefaaGreatDoor
