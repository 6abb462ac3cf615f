/- Lemmas that the last text rests on. Condition: each says its own. -/
import Derived.Test.YtadgfojhjnkliaaGreatDoorZRu7
set_option maxHeartbeats 16000000
set_option maxRecDepth 100000
namespace Go.Proofs.YtadgfojhjnkliaaGreatDoor
open Go.RowKit
open Tryz
theorem Mem.freshF {w0 w : World} {S : Nat → Prop} {L : List As} (M : Mem w0 S L w) (i : Nat) {g3 g6 : Nat} {seen : List (List UInt8)} (hi : L[i]? = some (As.fresh g3 g6 seen)) : Fresh w g3 g6 seen := M.ok i _ hi
theorem Mem.freshC {w0 w : World} {S : Nat → Prop} {L : List As} (M : Mem w0 S L w) (i : Nat) {g3 g6 : Nat} {seen : List (List UInt8)} (hi : L[i]? = some (As.fresh g3 g6 seen)) : Blk w g3 132 [.map (some g6)] := (M.freshF i hi).1
theorem SF {e : Env} {w : World} {o : Oper} {t kt el : TypeId} {x i : Operand} {g3 g6 : Nat} {k : List UInt8} {seen : List (List UInt8)} (ho : o.op = .lookup t x i false) (hx : ev e x = some (.map (some g6))) (hi : ev e i = some (str k)) (hu : prog.underlying t = some (.map kt el)) (hd : prog.underlying kt = some .string)
 (hz : (prog.info? el).map (·.zero) = some (some (.bool false))) (hF : Fresh w g3 g6 seen) : Y prog e o w (.bool (decide (k ∈ seen))) := by
 obtain ⟨_, _, L, hm, hL⟩ := hF
 exact C2 ho hx hi hu hd hz hm (hL k)
theorem TX {Q : Exit → Act → World → Prop} {n : Nat} {e : Env} {w w0 : World} {S : Nat → Prop} {L : List As} {ops : Array Oper} {o : Oper} {rest : List Oper} (M : Mem w0 S L w) (i : Nat) (hw : Wn ops e o) (hd : o.dst = none) {t kt el g3 g6 : Nat} {mp ix x : Operand} {key : List UInt8} {seen : List (List UInt8)} (ho : o.op = .mapUpdate t mp ix x) (hm : ev e mp = some (.map (some g6))) (hx : ev e ix = some (str key)) (hv : ev e x = some (.bool true)) (hu : prog.underlying t = some (.map kt el)) (hk : prog.underlying kt = some .string)
 (hi : L[i]? = some (As.fresh g3 g6 seen)) (k : ∀ w', Mem w0 S (L.set i (As.fresh g3 g6 (key :: seen))) w' → SxL prog ops Q n rest e w') : SxL prog ops Q n (o :: rest) e w := by
 obtain ⟨hc, hne, K, hm', hL⟩ := M.freshF i hi
 refine CI none hw hd rfl (fun ρ hρ => G6 ho (hρ _ _ hm) (hρ _ _ hx) (hρ _ _ hv) hu hk hm') ?_
 rintro _ w1 ⟨rfl, hf, hb⟩
 exact k w1 (M.updFresh i hi ⟨hc.fr hf hne, hne, _, hb, NX hL⟩ (hf.mono fun _ _ e => .inr e))
def IK (m : Md) (s : List (List UInt8)) : Nat := (m.fls.filter fun f => !(decide (f.tg ∈ s))).length
theorem TC {α : Type} {p q : α → Bool} : ∀ l : List α, (∀ x ∈ l, q x = true → p x = true) → (l.filter q).length ≤ (l.filter p).length
 | [], _ => Nat.le_refl _
 | y :: t, h => by
  have h1 := TC t (fun x hx => h x (List.mem_cons_of_mem _ hx))
  rw [List.filter_cons, List.filter_cons]
  by_cases hy : q y = true
  ·rw [if_pos hy, if_pos (h y (by simp) hy), List.length_cons, List.length_cons]; omega
  ·rw [if_neg hy]
   split
   ·rw [List.length_cons]; omega
   ·exact h1
theorem TB {α : Type} {p q : α → Bool} : ∀ {l : List α} {f : α}, f ∈ l → (∀ x ∈ l, q x = true → p x = true) → p f = true → q f = false → (l.filter q).length < (l.filter p).length
 | x :: r, f, hf, hpq, hp, hq => by
  rw [List.filter_cons, List.filter_cons]
  have h1 := TC r (fun x hx => hpq x (List.mem_cons_of_mem _ hx))
  rcases List.mem_cons.1 hf with rfl | hf
  ·rw [if_pos hp, if_neg (by rw [hq]; decide), List.length_cons]; omega
  ·have h2 := TB hf (fun x hx => hpq x (List.mem_cons_of_mem _ hx)) hp hq
   by_cases hy : q x = true
   ·rw [if_pos hy, if_pos (hpq x (by simp) hy), List.length_cons, List.length_cons]; omega
   ·rw [if_neg hy]
    split
    ·rw [List.length_cons]; omega
    ·exact h2
theorem bF {m : Md} {s : List (List UInt8)} {k : List UInt8} {f : Fl} (hf : f ∈ BK m.fls k) (h : decide (f.tg ∈ s) = false) : IK m (f.tg :: s) < IK m s := by
 have hf' : f ∈ m.fls := (List.mem_filter.1 hf).1
 refine TB hf' (fun x _ hx => ?_) (by rw [h]; rfl) (by simp)
 simp only [List.mem_cons, Bool.not_eq_true', decide_eq_false_iff_not] at hx ⊢
 exact fun z => hx (.inr z)
def JR (m : Md) (rc : List UInt8 → List (List UInt8) → List (List UInt8)) : List Fl → List (List UInt8) → List (List UInt8)
 | [], s => s
 | f :: r, s => if (OK m f.tg && (!(decide (f.tg ∈ s)))) = true then JR m rc r (rc f.tg (f.tg :: s)) else JR m rc r s
theorem M2 {m : Md} {N : Nat} {rc : List UInt8 → List (List UInt8) → List (List UInt8)} (hmono : ∀ k' s', IK m s' < N → IK m (rc k' s') ≤ IK m s') {k : List UInt8} : ∀ (l : List Fl) (s : List (List UInt8)), (∀ f ∈ l, f ∈ BK m.fls k) → IK m s ≤ N → IK m (JR m rc l s) ≤ IK m s
 | [], _, _, _ => Nat.le_refl _
 | f :: r, s, hl, hN => by
  rw [JR]
  split
  ·rename_i h
   have hlt := bF (s := s) (hl f (by simp)) (C1 (C5 h).2)
   have h1 := hmono f.tg (f.tg :: s) (Nat.lt_of_lt_of_le hlt hN)
   have h2 := M2 hmono r (rc f.tg (f.tg :: s)) (fun x hx => hl x (List.mem_cons_of_mem _ hx)) (by omega)
   omega
  ·exact M2 hmono r s (fun x hx => hl x (List.mem_cons_of_mem _ hx)) hN
def SG (m : Md) : Nat → List UInt8 → List (List UInt8) → List (List UInt8)
 | 0, k, s => JR m (fun _ s => s) (BK m.fls k) s
 | n + 1, k, s => JR m (SG m n) (BK m.fls k) s
def mY (m : Md) : Nat → List UInt8 → List (List UInt8) → List (List UInt8)
 | 0 => fun _ s => s
 | n + 1 => SG m n
theorem VC (m : Md) (n : Nat) (k : List UInt8) (s : List (List UInt8)) : SG m n k s = JR m (mY m n) (BK m.fls k) s := by cases n <;> rfl
theorem VB (m : Md) : ∀ (n : Nat) (k : List UInt8) (s : List (List UInt8)), IK m s ≤ n → IK m (SG m n k s) ≤ IK m s
 | 0, k, s, h => M2 (N := 0) (fun _ _ h => by omega) (k := k) _ s (fun _ hf => hf) h
 | n + 1, k, s, h => M2 (N := n + 1) (fun k' s' h' => VB m n k' s' (by omega)) (k := k) _ s (fun _ hf => hf) h
theorem ZS (m : Md) (n : Nat) : ∀ (k : List UInt8) (s : List (List UInt8)), IK m s < n → IK m (mY m n k s) ≤ IK m s := fun k s h => by
 cases n with
 | zero => omega
 | succ n => exact VB m n k s (by omega)
theorem Mem.join2 {w0 w : World} {S : Nat → Prop} {L : List As} {a b : As} (M : Mem w0 S (a :: b :: L) w) (c : As) (hok : c.ok w) (hfp : ∀ g ∈ c.fp, g ∈ a.fp ∨ g ∈ b.fp) : Mem w0 S (c :: L) w := by
 have get : ∀ (i : Nat) (d : As), L[i]? = some d → (a :: b :: L)[i + 2]? = some d := fun i d h => h
 have fp : ∀ k, k ∈ c.fp → ∃ (i : Nat) (d : As), i < 2 ∧ (a :: b :: L)[i]? = some d ∧ k ∈ d.fp := fun k hk => by
  rcases hfp k hk with h | h
  ·exact ⟨0, _, by decide, rfl, h⟩
  ·exact ⟨1, _, by decide, rfl, h⟩
 refine ⟨M.fr, ?_, ?_, ?_⟩
 ·intro i d hi
  cases i with
  | zero => simp only [List.getElem?_cons_zero, Option.some.injEq] at hi; subst hi; exact hok
  | succ i => exact M.ok (i + 2) d (get i d (by simpa using hi))
 ·intro i d hi k hk
  cases i with
  | zero =>
   simp only [List.getElem?_cons_zero, Option.some.injEq] at hi; subst hi
   obtain ⟨j, e, _, h1, h2⟩ := fp k hk
   exact M.lt j e h1 k h2
  | succ i => exact M.lt (i + 2) d (get i d (by simpa using hi)) k hk
 ·intro i j d e hi hj hne k hk hk'
  cases i with
  | zero =>
   cases j with
   | zero => exact hne rfl
   | succ j =>
    simp only [List.getElem?_cons_zero, Option.some.injEq] at hi; subst hi
    obtain ⟨q, d', hq, h1, h2⟩ := fp k hk
    exact M.apart q (j + 2) d' e h1 (get j e (by simpa using hj)) (by omega) k h2 hk'
  | succ i =>
   cases j with
   | zero =>
    simp only [List.getElem?_cons_zero, Option.some.injEq] at hj; subst hj
    obtain ⟨q, d', hq, h1, h2⟩ := fp k hk'
    exact M.apart (i + 2) q d d' (get i d (by simpa using hi)) h1 (by omega) k hk h2
   | succ j => exact M.apart (i + 2) (j + 2) d e (get i d (by simpa using hi)) (get j e (by simpa using hj)) (by omega) k hk hk'
theorem kW (m : Md) (s : List (List UInt8)) : IK m s ≤ m.fls.length := List.length_filter_le _ _
def dG (m : Md) (y : El) : Bool := if (!(OK m y.id)) = true then true else !(decide (y.id ∈ SG m m.fls.length y.id []))
theorem Q1 : (prog.info? 197).map (·.size) = some 1 := by kernel_rfl
theorem PP : (prog.info? 197).map (·.zero) = some (some (.nilFunc)) := by kernel_rfl
theorem fI (m : Md) (a : MdA) (ix : IxA) (gx gp g4 g5 gm g6 : Nat) (w0 : World) (ho : MdOk m) (hx : IxAt w0 m a ix gx) (hp : Blk w0 gp 87 [pg gx]) (h4 : Blk w0 g4 135 [.func (.func 100) #[] #[pg gp]]) (hS : ∀ k, (k = g5 ∨ k = gm) → w0.heap.size ≤ k) (hn6 : ¬ (g6 = g5 ∨ g6 = gm)) (N : Nat) (rc : List UInt8 → List (List UInt8) → List (List UInt8)) (hmono : ∀ k' s', IK m s' < N → IK m (rc k' s') ≤ IK m s')
 (hR : ∀ (k' : List UInt8) (s' : List (List UInt8)) (W : World), IK m s' < N → Fr0 w0 W → Fresh W g5 gm s' → Blk W g6 128 [.func (.func 102) #[] #[pg gp, pg g4, pg g5, pg g6]] → Calls prog 102 #[str k', pg gp, pg g4, pg g5, pg g6] W fun e W' => e = .returned (.tuple #[]) ∧ Fresh W' g5 gm (rc k' s') ∧ Fr (fun k => k = g5 ∨ k = gm) W W')
 (k : List UInt8) (s0 : List (List UInt8)) (w : World) (hN : IK m s0 ≤ N) (h0 : Fr0 w0 w) (hF : Fresh w g5 gm s0) (h6 : Blk w g6 128 [.func (.func 102) #[] #[pg gp, pg g4, pg g5, pg g6]]) :
 Calls prog 102 #[str k, pg gp, pg g4, pg g5, pg g6] w fun e w' => e = .returned (.tuple #[]) ∧ Fresh w' g5 gm (JR m rc (BK m.fls k) s0) ∧ Fr (fun k => k = g5 ∨ k = gm) w w' := by
 have hOl := DM m.fls k
 have hnf := ho.nfls
 refine AK (vs := [_, _, _, _, _]) func102 rfl ntmps102 rfl ?_
 have M : Mem w (fun k => k = g5 ∨ k = gm) [As.fresh g5 gm s0] w := Mem.oneFresh hF
 refine A4 (A0 (yl rfl rfl (Blk.c (hp.fr0 (FB h0 M.fr hS)) 0 rfl) (yb rfl (yb rfl (ya rfl (CO rfl rfl (sc rfl) (Blk.c ((hx.fr0 (FB h0 M.fr hS)).blk) 7 rfl)) (yb rfl (ya rfl (C2 rfl rfl rfl underlying137 underlying9 zr_sl_api_Flow ((hx.fr0 (FB h0 M.fr hS)).O) (hx.getO _)) (ya rfl (CY rfl rfl (sl rfl)) (yb rfl (A1 (A2 (AV (CM (fun e wr mz => ∃ (i : Nat) (s : List (List UInt8)), e = [(2, pg g4), (3, pg g5), (4, pg g6), (13, .slice (ix.oA k) ((BK m.fls k).length) (ix.oC k)), (14, .int .i64 (((BK m.fls k).length : Nat) : Int)), (15, .int .i64 ((i : Nat) : Int))] ∧ Mem w (fun k => k = g5 ∨ k = gm) [As.fresh g5 gm s] wr ∧ (i ≤ (BK m.fls k).length) ∧ (IK m s ≤ N) ∧ (JR m rc (BK m.fls k) s0 = JR m rc ((BK m.fls k).drop i) s) ∧ mz = (BK m.fls k).length - i) ⟨0, s0, rfl, M, Nat.zero_le _, hN, rfl, rfl⟩ ⟨rfl, rfl, rfl, rfl, rfl, rfl, trivial⟩ ?_)))))))))))))
 rintro _ w1 _ ⟨i, s, rfl, M, hi, hN, hE, rfl⟩
 refine A4 (A0 (ya rfl (CH rfl rfl rfl) (A1 (A2 (A4 (AQ (b := (decide (((i : Nat) : Int) < (((BK m.fls k).length : Nat) : Int)))) rfl (fun h16 => ?_) (fun h16 => ?_)))))))
 ·have h16p := (odt h16)
  refine AL (A2 (A4 (AV (A4 (A0 ?_)))))
  obtain ⟨u, hu⟩ := DY (l := (BK m.fls k)) (i := i) (by omega)
  obtain ⟨b_u, o_u, hA_u⟩ := CL (k := 4) (by omega) ((hx.fr0 (FB h0 M.fr hS)).rdO _) hu
  refine ya rfl (BW i hA_u rfl rfl rfl (sl rfl) (by omega)) (ya rfl (AN rfl rfl (DK Fl.len ((hx.fr0 (FB h0 M.fr hS)).rdO _) hA_u hu) underlying65 rfl CB) (BI M (A9 rfl) rfl rfl 65 rfl [str [], str [], str [], str []] EF rfl fun g7 w2 hg7 M => B5 (cs' := (Fl.cells u)) M 0 (A9 rfl) rfl rfl rfl rfl rfl CB rfl (AP rfl) (AW rfl) rfl fun w3 M => A1 (A2 (A4 (A0 (yl rfl rfl (Blk.c (h4.fr0 (FB h0 M.fr hS)) 0 rfl) (yb rfl (yl rfl rfl (M.cell 0 rfl rfl) (cp M 22 rfl (C0 rfl rfl rfl call100) (W2 m a ix gx gp u.tg _ ho (hx.fr0 (FB h0 M.fr hS)) (hp.fr0 (FB h0 M.fr hS))) fun w4 M => yb rfl (AT 6 [(2, pg g4), (3, pg g5), (4, pg g6), (13, .slice (ix.oA k) ((BK m.fls k).length) (ix.oC k)), (14, .int .i64 (((BK m.fls k).length : Nat) : Int)), (15, .int .i64 ((i : Nat) : Int)), (7, pg g7), (29, .bool ((OK m u.tg) && (!(decide (u.tg ∈ s)))))] (fun w' => Mem w (fun k => k = g5 ∨ k = gm) [As.blk g7 65 (Fl.cells u), As.fresh g5 gm s] w') ?_ (fun k23 => ?_)))))))))))
  ·intro w5 M
   refine A1 (A2 (AQ (b := ((OK m u.tg) && (!(decide (u.tg ∈ s))))) rfl (fun h29 => ?_) (fun h29 => ?_)))
   ·have h29p := (And.intro (C5 h29).1 (C1 (C5 h29).2))
    have hlt := bF (m := m) (s := s) (List.mem_of_getElem? hu) (C1 (C5 h29).2)
    refine A4 (A0 (yl rfl rfl (Blk.c (M.freshC 1 rfl) 0 rfl) (yb rfl (yl rfl rfl (M.cell 0 rfl rfl) (TX M 1 (A9 rfl) rfl rfl rfl rfl rfl underlying132 underlying9 rfl fun w6 M => A1 (A2 (A0 (yl rfl rfl (Blk.c (h6.fr M.fr hn6) 0 rfl) (yb rfl (yl rfl rfl (M.cell 0 rfl rfl) (cl 36 rfl (C0 rfl rfl rfl call102) (hR u.tg (u.tg :: s) _ (Nat.lt_of_lt_of_le hlt hN) (FB h0 M.fr hS) (M.freshF 1 rfl) (h6.fr M.fr hn6)) ?_)))))))))))
    rintro _ w7 ⟨rfl, hFw7, hfw7⟩
    have M := M.updFresh 1 rfl hFw7 hfw7
    refine ⟨_, rfl, A1 (AC (A2 (A0 (ya rfl (CQ rfl rfl rfl (by omega)) (yb rfl (A1 (BM [(2, pg g4), (3, pg g5), (4, pg g6), (13, .slice (ix.oA k) ((BK m.fls k).length) (ix.oC k)), (14, .int .i64 (((BK m.fls k).length : Nat) : Int)), (15, .int .i64 (((i + 1) : Nat) : Int))] ((BK m.fls k).length - (i + 1)) ⟨i + 1, (rc u.tg (u.tg :: s)), rfl, (M.pk [1]), ?_, ?_, ?_, rfl⟩ (by first | omega | (simp <;> omega)) ⟨rfl, rfl, rfl, rfl, rfl, rfl, trivial⟩)))))))⟩
    ·omega
    ·first
      | exact Nat.le_trans (hmono _ _ (Nat.lt_of_lt_of_le hlt hN)) (Nat.le_trans (Nat.le_of_lt hlt) hN)
      | exact hN
    ·rw [hE, BG hu, JR]
     first
      | rw [if_pos h29]
      | rw [if_neg (BA h29)]
   ·have h29p := ((E9 h29).imp (fun z => z) (fun z => (C3 z)))
    refine AL (AC (A2 (A0 (ya rfl (CQ rfl rfl rfl (by omega)) (yb rfl (A1 (BM [(2, pg g4), (3, pg g5), (4, pg g6), (13, .slice (ix.oA k) ((BK m.fls k).length) (ix.oC k)), (14, .int .i64 (((BK m.fls k).length : Nat) : Int)), (15, .int .i64 (((i + 1) : Nat) : Int))] ((BK m.fls k).length - (i + 1)) ⟨i + 1, s, rfl, (M.pk [1]), ?_, ?_, ?_, rfl⟩ (by first | omega | (simp <;> omega)) ⟨rfl, rfl, rfl, rfl, rfl, rfl, trivial⟩)))))))
    ·omega
    ·first
      | exact Nat.le_trans (hmono _ _ (Nat.lt_of_lt_of_le hlt hN)) (Nat.le_trans (Nat.le_of_lt hlt) hN)
      | exact hN
    ·rw [hE, BG hu, JR]
     first
      | rw [if_pos h29]
      | rw [if_neg (BA h29)]
  refine AE (d := 23) (b := (OK m u.tg)) rfl (fun h23 => ?_) (fun h23 => ?_)
  ·exact ym rfl rfl (Blk.c (M.freshC 1 rfl) 0 rfl) (yd rfl (yp rfl) (ym rfl rfl (M.cell 0 rfl rfl) (yd rfl (SF rfl rfl rfl underlying132 underlying9 TR (M.freshF 1 rfl)) (yd rfl (yp rfl) (yb rfl (k23 _ _ M ⟨rfl, rfl, rfl, rfl, rfl, rfl, rfl, (by rw [h23]; rfl), trivial⟩))))))
  ·iterate 5 refine yo rfl ?_
   exact yb rfl (k23 _ _ M ⟨rfl, rfl, rfl, rfl, rfl, rfl, rfl, (by rw [h23]; rfl), trivial⟩)
 ·have h16p := (odf h16)
  refine CD (AI (AI (BB (DC (Or.inr rfl) rfl ?_))))
  obtain rfl : i = (BK m.fls k).length := by omega
  exact ⟨rfl, by rw [hE, List.drop_length]; exact M.ok 0 _ rfl, M.fr⟩
theorem ZG (m : Md) (a : MdA) (ix : IxA) (gx gp g4 g5 gm g6 : Nat) (w0 : World) (ho : MdOk m) (hx : IxAt w0 m a ix gx) (hp : Blk w0 gp 87 [pg gx]) (h4 : Blk w0 g4 135 [.func (.func 100) #[] #[pg gp]]) (hS : ∀ k, (k = g5 ∨ k = gm) → w0.heap.size ≤ k) (hn6 : ¬ (g6 = g5 ∨ g6 = gm)) : ∀ (N : Nat) (k : List UInt8) (s0 : List (List UInt8)) (w : World), IK m s0 ≤ N → Fr0 w0 w → Fresh w g5 gm s0 → Blk w g6 128 [.func (.func 102) #[] #[pg gp, pg g4, pg g5, pg g6]] →
 Calls prog 102 #[str k, pg gp, pg g4, pg g5, pg g6] w fun e w' => e = .returned (.tuple #[]) ∧ Fresh w' g5 gm (SG m N k s0) ∧ Fr (fun k => k = g5 ∨ k = gm) w w'
 | 0, k, s0, w, hN, h0, hF, h6 => VC m 0 k s0 ▸ fI m a ix gx gp g4 g5 gm g6 w0 ho hx hp h4 hS hn6 0 (mY m 0) (ZS m 0) (fun _ _ _ h => by omega) k s0 w hN h0 hF h6
 | N + 1, k, s0, w, hN, h0, hF, h6 => VC m (N + 1) k s0 ▸ fI m a ix gx gp g4 g5 gm g6 w0 ho hx hp h4 hS hn6 (N + 1) (mY m (N + 1)) (ZS m (N + 1)) (fun k' s' W h h0' hF' h6' => ZG m a ix gx gp g4 g5 gm g6 w0 ho hx hp h4 hS hn6 N k' s' W (by omega) h0' hF' h6') k s0 w hN h0 hF h6
theorem iQ (m : Md) (a : MdA) (ix : IxA) (gx gp g4 : Nat) (y : El) (w : World) (ho : MdOk m) (hx : IxAt w m a ix gx) (hp : Blk w gp 87 [pg gx]) (h4 : Blk w g4 135 [.func (.func 100) #[] #[pg gp]]) :
 Calls prog 101 #[.agg y.cells.toArray, pg g4, pg gp] w fun e w' => e = .returned (.bool (dG m y)) ∧ Fr0 w w' := by
 refine AK (vs := [_, _, _]) func101 rfl ntmps101 rfl ?_
 have M := CK w
 refine A4 (A0 (BD M (A9 rfl) rfl rfl 62 rfl rfl (El.cells y) rfl fun g3 w1 hg3 M => yb rfl (A1 (A2 (A4 (A4 (A0 (yl rfl rfl (Blk.c (h4.fr0 M.fr) 0 rfl) (yb rfl (yl rfl rfl (M.cell 0 rfl rfl) (cp M 10 rfl (C0 rfl rfl rfl call100) (W2 m a ix gx gp y.id _ ho (hx.fr0 M.fr) (hp.fr0 M.fr)) fun w2 M => yb rfl (A1 ?_))))))))))))
 refine A2 (AQ (b := (!(OK m y.id))) rfl (fun h11 => ?_) (fun h11 => ?_))
 ·have h11p := (C1 h11)
  exact A4 (A0 (yb rfl (A1 (A2 (AD (AA (AH rfl rfl ⟨by rw [dG, if_pos h11], M.fr⟩)))))))
 ·have h11p := (C3 h11)
  refine AL (A2 (A4 (A0 (HN M (A9 rfl) rfl rfl rfl fun g12 w3 hg12 M => BI M (A9 rfl) rfl rfl 132 rfl [.map none] I1 rfl fun g5 w4 hg5 M => BQ (cs' := [.map (some g12)]) M 0 (A9 rfl) rfl rfl rfl rfl rfl rfl rfl I4 (AZ rfl) rfl fun w5 M => A1 (A2 (A4 (A0 (BI M (A9 rfl) rfl rfl 128 rfl [.nilFunc] PP rfl fun g6 w6 hg6 M => ?_))))))))
  refine A1 (A2 (A4 (A0 (ya rfl (CT (us := []) (vs := [pg gp, pg g4, pg g5, pg g6]) rfl rfl rfl) (BQ (cs' := [.func (.func 102) #[] #[pg gp, pg g4, pg g5, pg g6]]) M 0 (A9 rfl) rfl rfl rfl rfl rfl rfl rfl Q1 (AZ rfl) rfl fun w7 M => A1 (A2 (A4 (A0 (yl rfl rfl (M.cell 0 rfl rfl) (yb rfl (yl rfl rfl (M.cell 3 rfl rfl) ?_)))))))))))
  have M := Mem.join2 (M.pk [1, 2, 0, 3]) (As.fresh g5 g12 []) ⟨M.blk 1 rfl, M.neMp 1 2 rfl rfl (by decide), [], M.mp 2 rfl, fun _ => by simp [CE]⟩ (fun g hg => by simpa [As.fresh, As.blk, As.mp] using hg)
  have hSn := M.newF 0 rfl
  have h6n := M.neFresh 1 0 rfl rfl (by decide)
  refine cl 17 rfl (C0 rfl rfl rfl call102) (ZG m a ix gx gp g4 g5 g12 g6 w ho hx hp h4 hSn h6n m.fls.length y.id [] _ (kW m []) M.fr (M.freshF 0 rfl) (M.blk 1 rfl)) ?_
  rintro _ w8 ⟨rfl, hFw8, hfw8⟩
  have M := M.updFresh 0 rfl hFw8 hfw8
  exact ⟨_, rfl, A1 (A2 (A4 (A0 (yl rfl rfl (Blk.c (M.freshC 0 rfl) 0 rfl) (yb rfl (yl rfl rfl (M.cell 2 rfl rfl) (ya rfl (SF rfl rfl rfl underlying132 underlying9 TR (M.freshF 0 rfl)) (yb rfl (yb rfl (A1 (A2 (AD (AH rfl rfl ⟨by rw [dG, if_neg (BA h11)], M.fr⟩)))))))))))))⟩
theorem iP (m : Md) (a : MdA) (ix : IxA) (gx : Nat) (w : World) (ho : MdOk m) (hx : IxAt w m a ix gx) :
 Calls prog 39 #[pg gx] w fun e w' => e = .returned (IU (ffE (dG m) m.els)) ∧ Fr0 w w' := by
 refine AK (vs := [_]) func39 rfl ntmps39 rfl ?_
 have M := CK w
 refine A4 (A0 (BD M (A9 rfl) rfl rfl 87 rfl rfl ([pg gx]) rfl fun g1 w1 hg1 M => yb rfl (yb rfl (A1 (A2 (A4 (A0 (ya rfl (CT (us := []) (vs := [pg g1]) rfl rfl rfl) (BI M (A9 rfl) rfl rfl 135 rfl [.nilFunc] F3 rfl fun g4 w2 hg4 M => BQ (cs' := [.func (.func 100) #[] #[pg g1]]) M 0 (A9 rfl) rfl rfl rfl rfl rfl rfl rfl F4 (AZ rfl) rfl fun w3 M => A1 ?_)))))))))
 refine A2 (A4 (A0 (yl rfl rfl (M.cell 1 rfl rfl) (yb rfl (yb rfl (yb rfl (yl rfl rfl (Blk.c ((hx.fr0 M.fr).blk) 3 rfl) (ya rfl (CT (us := []) (vs := [pg g4, pg g1]) rfl rfl rfl) (cp M 12 rfl (AF rfl rfl call74) (HZ _ _ m.els (by have := ho.nfls; have := ho.nels; have := ho.nvars; omega) 101 [pg g4, pg g1] (dG m) _ (GE call101 (fun z hz w9 hf9 => iQ m a ix gx g1 g4 z w9 ho ((hx.fr0 M.fr).fr0 hf9) ((M.blk 1 rfl).fr0 hf9) ((M.blk 0 rfl).fr0 hf9))) (M.rd hx.md.els)) fun w4 M => ?_)))))))))
 iterate 4 refine yb rfl ?_
 exact A1 (A2 (AD (BY rfl rfl rfl ⟨congrArg Ending.returned (RB _ _), M.fr⟩)))
end Go.Proofs.YtadgfojhjnkliaaGreatDoor
