/- Lemmas that the last text rests on. Condition: each says its own. -/
import Derived.Test.YtdaihdknnlphkaaGreatDoorZRu7
set_option maxHeartbeats 16000000
set_option maxRecDepth 100000
namespace Go.Proofs.YtdaihdknnlphkaaGreatDoor
open Go.RowKit
open Tryz
theorem Mem.freshF {w0 w : World} {S : Nat → Prop} {L : List As} (M : Mem w0 S L w) (i : Nat) {g3 g6 : Nat} {seen : List (List UInt8)} (hi : L[i]? = some (As.fresh g3 g6 seen)) : Fresh w g3 g6 seen := M.ok i _ hi
theorem Mem.freshC {w0 w : World} {S : Nat → Prop} {L : List As} (M : Mem w0 S L w) (i : Nat) {g3 g6 : Nat} {seen : List (List UInt8)} (hi : L[i]? = some (As.fresh g3 g6 seen)) : Blk w g3 113 [.map (some g6)] := (M.freshF i hi).1
theorem U9 {e : Env} {w : World} {o : Oper} {t kt el : TypeId} {x i : Operand} {g3 g6 : Nat} {k : List UInt8} {seen : List (List UInt8)} (ho : o.op = .lookup t x i false) (hx : ev e x = some (.map (some g6))) (hi : ev e i = some (str k)) (hu : prog.underlying t = some (.map kt el)) (hd : prog.underlying kt = some .string)
 (hz : (prog.info? el).map (·.zero) = some (some (.bool false))) (hF : Fresh w g3 g6 seen) : Y prog e o w (.bool (decide (k ∈ seen))) := by
 obtain ⟨_, _, L, hm, hL⟩ := hF
 exact CK ho hx hi hu hd hz hm (hL k)
theorem VX {Q : Exit → Act → World → Prop} {n : Nat} {e : Env} {w w0 : World} {S : Nat → Prop} {L : List As} {ops : Array Oper} {o : Oper} {rest : List Oper} (M : Mem w0 S L w) (i : Nat) (hw : Wn ops e o) (hd : o.dst = none) {t kt el g3 g6 : Nat} {mp ix x : Operand} {key : List UInt8} {seen : List (List UInt8)} (ho : o.op = .mapUpdate t mp ix x) (hm : ev e mp = some (.map (some g6))) (hx : ev e ix = some (str key)) (hv : ev e x = some (.bool true)) (hu : prog.underlying t = some (.map kt el)) (hk : prog.underlying kt = some .string)
 (hi : L[i]? = some (As.fresh g3 g6 seen)) (k : ∀ w', Mem w0 S (L.set i (As.fresh g3 g6 (key :: seen))) w' → SxL prog ops Q n rest e w') : SxL prog ops Q n (o :: rest) e w := by
 obtain ⟨hc, hne, K, hm', hL⟩ := M.freshF i hi
 refine CM none hw hd rfl (fun ρ hρ => GI ho (hρ _ _ hm) (hρ _ _ hx) (hρ _ _ hv) hu hk hm') ?_
 rintro _ w1 ⟨rfl, hf, hb⟩
 exact k w1 (M.updFresh i hi ⟨hc.fr hf hne, hne, _, hb, P7 hL⟩ (hf.mono fun _ _ e => .inr e))
def IX (m : Md) (s : List (List UInt8)) : Nat := (m.fls.filter fun f => !(decide (f.tg ∈ s))).length
theorem V8 {α : Type} {p q : α → Bool} : ∀ l : List α, (∀ x ∈ l, q x = true → p x = true) → (l.filter q).length ≤ (l.filter p).length
 | [], _ => Nat.le_refl _
 | y :: t, h => by
  have h1 := V8 t (fun x hx => h x (List.mem_cons_of_mem _ hx))
  rw [List.filter_cons, List.filter_cons]
  by_cases hy : q y = true
  ·rw [if_pos hy, if_pos (h y (by simp) hy), List.length_cons, List.length_cons]; omega
  ·rw [if_neg hy]
   split
   ·rw [List.length_cons]; omega
   ·exact h1
theorem V7 {α : Type} {p q : α → Bool} : ∀ {l : List α} {f : α}, f ∈ l → (∀ x ∈ l, q x = true → p x = true) → p f = true → q f = false → (l.filter q).length < (l.filter p).length
 | x :: r, f, hf, hpq, hp, hq => by
  rw [List.filter_cons, List.filter_cons]
  have h1 := V8 r (fun x hx => hpq x (List.mem_cons_of_mem _ hx))
  rcases List.mem_cons.1 hf with rfl | hf
  ·rw [if_pos hp, if_neg (by rw [hq]; decide), List.length_cons]; omega
  ·have h2 := V7 hf (fun x hx => hpq x (List.mem_cons_of_mem _ hx)) hp hq
   by_cases hy : q x = true
   ·rw [if_pos hy, if_pos (hpq x (by simp) hy), List.length_cons, List.length_cons]; omega
   ·rw [if_neg hy]
    split
    ·rw [List.length_cons]; omega
    ·exact h2
theorem f7 {m : Md} {s : List (List UInt8)} {k : List UInt8} {f : Fl} (hf : f ∈ BJ m.fls k) (h : decide (f.tg ∈ s) = false) : IX m (f.tg :: s) < IX m s := by
 have hf' : f ∈ m.fls := (List.mem_filter.1 hf).1
 refine V7 hf' (fun x _ hx => ?_) (by rw [h]; rfl) (by simp)
 simp only [List.mem_cons, Bool.not_eq_true', decide_eq_false_iff_not] at hx ⊢
 exact fun z => hx (.inr z)
def GA (m : Md) (rc : List UInt8 → List (List UInt8) → List (List UInt8)) : List Fl → List (List UInt8) → List (List UInt8)
 | [], s => s
 | f :: r, s => if (JO m f.tg && (!(decide (f.tg ∈ s)))) = true then GA m rc r (rc f.tg (f.tg :: s)) else GA m rc r s
theorem NE {m : Md} {N : Nat} {rc : List UInt8 → List (List UInt8) → List (List UInt8)} (hmono : ∀ k' s', IX m s' < N → IX m (rc k' s') ≤ IX m s') {k : List UInt8} : ∀ (l : List Fl) (s : List (List UInt8)), (∀ f ∈ l, f ∈ BJ m.fls k) → IX m s ≤ N → IX m (GA m rc l s) ≤ IX m s
 | [], _, _, _ => Nat.le_refl _
 | f :: r, s, hl, hN => by
  rw [GA]
  split
  ·rename_i h
   have hlt := f7 (s := s) (hl f (by simp)) (C4 (C9 h).2)
   have h1 := hmono f.tg (f.tg :: s) (Nat.lt_of_lt_of_le hlt hN)
   have h2 := NE hmono r (rc f.tg (f.tg :: s)) (fun x hx => hl x (List.mem_cons_of_mem _ hx)) (by omega)
   omega
  ·exact NE hmono r s (fun x hx => hl x (List.mem_cons_of_mem _ hx)) hN
def MG (m : Md) : Nat → List UInt8 → List (List UInt8) → List (List UInt8)
 | 0, k, s => GA m (fun _ s => s) (BJ m.fls k) s
 | n + 1, k, s => GA m (MG m n) (BJ m.fls k) s
def rB (m : Md) : Nat → List UInt8 → List (List UInt8) → List (List UInt8)
 | 0 => fun _ s => s
 | n + 1 => MG m n
theorem XJ (m : Md) (n : Nat) (k : List UInt8) (s : List (List UInt8)) : MG m n k s = GA m (rB m n) (BJ m.fls k) s := by cases n <;> rfl
theorem XI (m : Md) : ∀ (n : Nat) (k : List UInt8) (s : List (List UInt8)), IX m s ≤ n → IX m (MG m n k s) ≤ IX m s
 | 0, k, s, h => NE (N := 0) (fun _ _ h => by omega) (k := k) _ s (fun _ hf => hf) h
 | n + 1, k, s, h => NE (N := n + 1) (fun k' s' h' => XI m n k' s' (by omega)) (k := k) _ s (fun _ hf => hf) h
theorem dF (m : Md) (n : Nat) : ∀ (k : List UInt8) (s : List (List UInt8)), IX m s < n → IX m (rB m n k s) ≤ IX m s := fun k s h => by
 cases n with
 | zero => omega
 | succ n => exact XI m n k s (by omega)
theorem Mem.join2 {w0 w : World} {S : Nat → Prop} {L : List As} {a b : As} (M : Mem w0 S (a :: b :: L) w) (c : As) (hok : c.ok w) (hfp : ∀ g ∈ c.fp, g ∈ a.fp ∨ g ∈ b.fp) : Mem w0 S (c :: L) w := by
 have get : ∀ (i : Nat) (d : As), L[i]? = some d → (a :: b :: L)[i + 2]? = some d := fun i d h => h
 have fp : ∀ k, k ∈ c.fp → ∃ (i : Nat) (d : As), i < 2 ∧ (a :: b :: L)[i]? = some d ∧ k ∈ d.fp := fun k hk => by
  rcases hfp k hk with h | h
  ·exact ⟨0, _, by decide, rfl, h⟩
  ·exact ⟨1, _, by decide, rfl, h⟩
 refine ⟨M.fr, ?_, ?_, ?_⟩
 ·intro i d hi
  cases i with
  | zero => simp only [List.getElem?_cons_zero, Option.some.injEq] at hi; subst hi; exact hok
  | succ i => exact M.ok (i + 2) d (get i d (by simpa using hi))
 ·intro i d hi k hk
  cases i with
  | zero =>
   simp only [List.getElem?_cons_zero, Option.some.injEq] at hi; subst hi
   obtain ⟨j, e, _, h1, h2⟩ := fp k hk
   exact M.lt j e h1 k h2
  | succ i => exact M.lt (i + 2) d (get i d (by simpa using hi)) k hk
 ·intro i j d e hi hj hne k hk hk'
  cases i with
  | zero =>
   cases j with
   | zero => exact hne rfl
   | succ j =>
    simp only [List.getElem?_cons_zero, Option.some.injEq] at hi; subst hi
    obtain ⟨q, d', hq, h1, h2⟩ := fp k hk
    exact M.apart q (j + 2) d' e h1 (get j e (by simpa using hj)) (by omega) k h2 hk'
  | succ i =>
   cases j with
   | zero =>
    simp only [List.getElem?_cons_zero, Option.some.injEq] at hj; subst hj
    obtain ⟨q, d', hq, h1, h2⟩ := fp k hk'
    exact M.apart (i + 2) q d d' (get i d (by simpa using hi)) h1 (by omega) k hk h2
   | succ j => exact M.apart (i + 2) (j + 2) d e (get i d (by simpa using hi)) (get j e (by simpa using hj)) (by omega) k hk hk'
theorem p1 (m : Md) (s : List (List UInt8)) : IX m s ≤ m.fls.length := List.length_filter_le _ _
def W8 (m : Md) (y : El) : Bool := if (!(JO m y.id)) = true then true else !(decide (y.id ∈ MG m m.fls.length y.id []))
theorem RF : (prog.info? 199).map (·.size) = some 1 := by kernel_rfl
theorem R4 : (prog.info? 199).map (·.zero) = some (some (.nilFunc)) := by kernel_rfl
theorem kM (m : Md) (a : MdA) (ix : IxA) (gx gp g4 g5 gm g6 : Nat) (w0 : World) (ho : MdOk m) (hx : IxAt w0 m a ix gx) (hp : Blk w0 gp 67 [pg gx]) (h4 : Blk w0 g4 91 [.func (.func 90) #[] #[pg gp]]) (hS : ∀ k, (k = g5 ∨ k = gm) → w0.heap.size ≤ k) (hn6 : ¬ (g6 = g5 ∨ g6 = gm)) (N : Nat) (rc : List UInt8 → List (List UInt8) → List (List UInt8)) (hmono : ∀ k' s', IX m s' < N → IX m (rc k' s') ≤ IX m s')
 (hR : ∀ (k' : List UInt8) (s' : List (List UInt8)) (W : World), IX m s' < N → Fr0 w0 W → Fresh W g5 gm s' → Blk W g6 56 [.func (.func 92) #[] #[pg gp, pg g4, pg g5, pg g6]] → Calls prog 92 #[str k', pg gp, pg g4, pg g5, pg g6] W fun e W' => e = .returned (.tuple #[]) ∧ Fresh W' g5 gm (rc k' s') ∧ Fr (fun k => k = g5 ∨ k = gm) W W')
 (k : List UInt8) (s0 : List (List UInt8)) (w : World) (hN : IX m s0 ≤ N) (h0 : Fr0 w0 w) (hF : Fresh w g5 gm s0) (h6 : Blk w g6 56 [.func (.func 92) #[] #[pg gp, pg g4, pg g5, pg g6]]) :
 Calls prog 92 #[str k, pg gp, pg g4, pg g5, pg g6] w fun e w' => e = .returned (.tuple #[]) ∧ Fresh w' g5 gm (GA m rc (BJ m.fls k) s0) ∧ Fr (fun k => k = g5 ∨ k = gm) w w' := by
 have hOl := AQ m.fls k
 have hnf := ho.nfls
 refine AJ (vs := [_, _, _, _, _]) func92 rfl ntmps92 rfl ?_
 have M : Mem w (fun k => k = g5 ∨ k = gm) [As.fresh g5 gm s0] w := Mem.oneFresh hF
 refine A9 (A0 (yl rfl rfl (Blk.c (hp.fr0 (D9 h0 M.fr hS)) 0 rfl) (yb rfl (yb rfl (ya rfl (C0 rfl rfl (sc rfl) (Blk.c ((hx.fr0 (D9 h0 M.fr hS)).blk) 7 rfl)) (yb rfl (ya rfl (CK rfl rfl rfl underlying88 underlying9 zr_sl_api_Flow ((hx.fr0 (D9 h0 M.fr hS)).O) (hx.getO _)) (ya rfl (CS rfl rfl (sl rfl)) (yb rfl (A4 (A5 (AV (CL (fun e wr mz => ∃ (i : Nat) (s : List (List UInt8)), e = [(2, pg g4), (3, pg g5), (4, pg g6), (13, .slice (ix.oA k) ((BJ m.fls k).length) (ix.oC k)), (14, .int .i64 (((BJ m.fls k).length : Nat) : Int)), (15, .int .i64 ((i : Nat) : Int))] ∧ Mem w (fun k => k = g5 ∨ k = gm) [As.fresh g5 gm s] wr ∧ (i ≤ (BJ m.fls k).length) ∧ (IX m s ≤ N) ∧ (GA m rc (BJ m.fls k) s0 = GA m rc ((BJ m.fls k).drop i) s) ∧ mz = (BJ m.fls k).length - i) ⟨0, s0, rfl, M, Nat.zero_le _, hN, rfl, rfl⟩ ⟨rfl, rfl, rfl, rfl, rfl, rfl, trivial⟩ ?_)))))))))))))
 rintro _ w1 _ ⟨i, s, rfl, M, hi, hN, hE, rfl⟩
 refine A9 (A0 (ya rfl (CB rfl rfl rfl) (A4 (A5 (A9 (AT (b := (decide (((i : Nat) : Int) < (((BJ m.fls k).length : Nat) : Int)))) rfl (fun h16 => ?_) (fun h16 => ?_)))))))
 ·have h16p := (odt h16)
  refine AN (A5 (A9 (AV (A9 (A0 ?_)))))
  obtain ⟨u, hu⟩ := DA (l := (BJ m.fls k)) (i := i) (by omega)
  obtain ⟨b_u, o_u, hA_u⟩ := C7 (k := 4) (by omega) ((hx.fr0 (D9 h0 M.fr hS)).rdO _) hu
  refine ya rfl (BM i hA_u rfl rfl rfl (sl rfl) (by omega)) (ya rfl (AU rfl rfl (DD Fl.len ((hx.fr0 (D9 h0 M.fr hS)).rdO _) hA_u hu) underlying41 rfl C8) (BI M (AA rfl) rfl rfl 41 rfl [str [], str [], str [], str []] FW rfl fun g7 w2 hg7 M => B8 (cs' := (Fl.cells u)) M 0 (AA rfl) rfl rfl rfl rfl rfl C8 rfl (AI rfl) (AY rfl) rfl fun w3 M => A4 (A5 (A9 (A0 (yl rfl rfl (Blk.c (h4.fr0 (D9 h0 M.fr hS)) 0 rfl) (yb rfl (yl rfl rfl (M.cell 0 rfl rfl) (cp M 22 rfl (BK rfl rfl rfl call90) (Y8 m a ix gx gp u.tg _ ho (hx.fr0 (D9 h0 M.fr hS)) (hp.fr0 (D9 h0 M.fr hS))) fun w4 M => yb rfl (AX 6 [(2, pg g4), (3, pg g5), (4, pg g6), (13, .slice (ix.oA k) ((BJ m.fls k).length) (ix.oC k)), (14, .int .i64 (((BJ m.fls k).length : Nat) : Int)), (15, .int .i64 ((i : Nat) : Int)), (7, pg g7), (29, .bool ((JO m u.tg) && (!(decide (u.tg ∈ s)))))] (fun w' => Mem w (fun k => k = g5 ∨ k = gm) [As.blk g7 41 (Fl.cells u), As.fresh g5 gm s] w') ?_ (fun k23 => ?_)))))))))))
  ·intro w5 M
   refine A4 (A5 (AT (b := ((JO m u.tg) && (!(decide (u.tg ∈ s))))) rfl (fun h29 => ?_) (fun h29 => ?_)))
   ·have h29p := (And.intro (C9 h29).1 (C4 (C9 h29).2))
    have hlt := f7 (m := m) (s := s) (List.mem_of_getElem? hu) (C4 (C9 h29).2)
    refine A9 (A0 (yl rfl rfl (Blk.c (M.freshC 1 rfl) 0 rfl) (yb rfl (yl rfl rfl (M.cell 0 rfl rfl) (VX M 1 (AA rfl) rfl rfl rfl rfl rfl underlying113 underlying9 rfl fun w6 M => A4 (A5 (A0 (yl rfl rfl (Blk.c (h6.fr M.fr hn6) 0 rfl) (yb rfl (yl rfl rfl (M.cell 0 rfl rfl) (cl 36 rfl (BK rfl rfl rfl call92) (hR u.tg (u.tg :: s) _ (Nat.lt_of_lt_of_le hlt hN) (D9 h0 M.fr hS) (M.freshF 1 rfl) (h6.fr M.fr hn6)) ?_)))))))))))
    rintro _ w7 ⟨rfl, hFw7, hfw7⟩
    have M := M.updFresh 1 rfl hFw7 hfw7
    refine ⟨_, rfl, A4 (AC (A5 (A0 (ya rfl (CI rfl rfl rfl (by omega)) (yb rfl (A4 (BF [(2, pg g4), (3, pg g5), (4, pg g6), (13, .slice (ix.oA k) ((BJ m.fls k).length) (ix.oC k)), (14, .int .i64 (((BJ m.fls k).length : Nat) : Int)), (15, .int .i64 (((i + 1) : Nat) : Int))] ((BJ m.fls k).length - (i + 1)) ⟨i + 1, (rc u.tg (u.tg :: s)), rfl, (M.pk [1]), ?_, ?_, ?_, rfl⟩ (by first | omega | (simp <;> omega)) ⟨rfl, rfl, rfl, rfl, rfl, rfl, trivial⟩)))))))⟩
    ·omega
    ·first
      | exact Nat.le_trans (hmono _ _ (Nat.lt_of_lt_of_le hlt hN)) (Nat.le_trans (Nat.le_of_lt hlt) hN)
      | exact hN
    ·rw [hE, BH hu, GA]
     first
      | rw [if_pos h29]
      | rw [if_neg (BE h29)]
   ·have h29p := ((EH h29).imp (fun z => z) (fun z => (C5 z)))
    refine AN (AC (A5 (A0 (ya rfl (CI rfl rfl rfl (by omega)) (yb rfl (A4 (BF [(2, pg g4), (3, pg g5), (4, pg g6), (13, .slice (ix.oA k) ((BJ m.fls k).length) (ix.oC k)), (14, .int .i64 (((BJ m.fls k).length : Nat) : Int)), (15, .int .i64 (((i + 1) : Nat) : Int))] ((BJ m.fls k).length - (i + 1)) ⟨i + 1, s, rfl, (M.pk [1]), ?_, ?_, ?_, rfl⟩ (by first | omega | (simp <;> omega)) ⟨rfl, rfl, rfl, rfl, rfl, rfl, trivial⟩)))))))
    ·omega
    ·first
      | exact Nat.le_trans (hmono _ _ (Nat.lt_of_lt_of_le hlt hN)) (Nat.le_trans (Nat.le_of_lt hlt) hN)
      | exact hN
    ·rw [hE, BH hu, GA]
     first
      | rw [if_pos h29]
      | rw [if_neg (BE h29)]
  refine AM (d := 23) (b := (JO m u.tg)) rfl (fun h23 => ?_) (fun h23 => ?_)
  ·exact ym rfl rfl (Blk.c (M.freshC 1 rfl) 0 rfl) (yd rfl (yp rfl) (ym rfl rfl (M.cell 0 rfl rfl) (yd rfl (U9 rfl rfl rfl underlying113 underlying9 VN (M.freshF 1 rfl)) (yd rfl (yp rfl) (yb rfl (k23 _ _ M ⟨rfl, rfl, rfl, rfl, rfl, rfl, rfl, (by rw [h23]; rfl), trivial⟩))))))
  ·iterate 5 refine yo rfl ?_
   exact yb rfl (k23 _ _ M ⟨rfl, rfl, rfl, rfl, rfl, rfl, rfl, (by rw [h23]; rfl), trivial⟩)
 ·have h16p := (odf h16)
  refine C2 (AG (AG (B5 (C3 (Or.inr rfl) rfl ?_))))
  obtain rfl : i = (BJ m.fls k).length := by omega
  exact ⟨rfl, by rw [hE, List.drop_length]; exact M.ok 0 _ rfl, M.fr⟩
theorem cT (m : Md) (a : MdA) (ix : IxA) (gx gp g4 g5 gm g6 : Nat) (w0 : World) (ho : MdOk m) (hx : IxAt w0 m a ix gx) (hp : Blk w0 gp 67 [pg gx]) (h4 : Blk w0 g4 91 [.func (.func 90) #[] #[pg gp]]) (hS : ∀ k, (k = g5 ∨ k = gm) → w0.heap.size ≤ k) (hn6 : ¬ (g6 = g5 ∨ g6 = gm)) : ∀ (N : Nat) (k : List UInt8) (s0 : List (List UInt8)) (w : World), IX m s0 ≤ N → Fr0 w0 w → Fresh w g5 gm s0 → Blk w g6 56 [.func (.func 92) #[] #[pg gp, pg g4, pg g5, pg g6]] →
 Calls prog 92 #[str k, pg gp, pg g4, pg g5, pg g6] w fun e w' => e = .returned (.tuple #[]) ∧ Fresh w' g5 gm (MG m N k s0) ∧ Fr (fun k => k = g5 ∨ k = gm) w w'
 | 0, k, s0, w, hN, h0, hF, h6 => XJ m 0 k s0 ▸ kM m a ix gx gp g4 g5 gm g6 w0 ho hx hp h4 hS hn6 0 (rB m 0) (dF m 0) (fun _ _ _ h => by omega) k s0 w hN h0 hF h6
 | N + 1, k, s0, w, hN, h0, hF, h6 => XJ m (N + 1) k s0 ▸ kM m a ix gx gp g4 g5 gm g6 w0 ho hx hp h4 hS hn6 (N + 1) (rB m (N + 1)) (dF m (N + 1)) (fun k' s' W h h0' hF' h6' => cT m a ix gx gp g4 g5 gm g6 w0 ho hx hp h4 hS hn6 N k' s' W (by omega) h0' hF' h6') k s0 w hN h0 hF h6
theorem mO (m : Md) (a : MdA) (ix : IxA) (gx gp g4 : Nat) (y : El) (w : World) (ho : MdOk m) (hx : IxAt w m a ix gx) (hp : Blk w gp 67 [pg gx]) (h4 : Blk w g4 91 [.func (.func 90) #[] #[pg gp]]) :
 Calls prog 91 #[.agg y.cells.toArray, pg g4, pg gp] w fun e w' => e = .returned (.bool (W8 m y)) ∧ Fr0 w w' := by
 refine AJ (vs := [_, _, _]) func91 rfl ntmps91 rfl ?_
 have M := CN w
 refine A9 (A0 (B4 M (AA rfl) rfl rfl 39 rfl rfl (El.cells y) rfl fun g3 w1 hg3 M => yb rfl (A4 (A5 (A9 (A9 (A0 (yl rfl rfl (Blk.c (h4.fr0 M.fr) 0 rfl) (yb rfl (yl rfl rfl (M.cell 0 rfl rfl) (cp M 10 rfl (BK rfl rfl rfl call90) (Y8 m a ix gx gp y.id _ ho (hx.fr0 M.fr) (hp.fr0 M.fr)) fun w2 M => yb rfl (A4 ?_))))))))))))
 refine A5 (AT (b := (!(JO m y.id))) rfl (fun h11 => ?_) (fun h11 => ?_))
 ·have h11p := (C4 h11)
  exact A9 (A0 (yb rfl (A4 (A5 (AF (AB (AK rfl rfl ⟨by rw [W8, if_pos h11], M.fr⟩)))))))
 ·have h11p := (C5 h11)
  refine AN (A5 (A9 (A0 (J3 M (AA rfl) rfl rfl rfl fun g12 w3 hg12 M => BI M (AA rfl) rfl rfl 113 rfl [.map none] IE rfl fun g5 w4 hg5 M => BP (cs' := [.map (some g12)]) M 0 (AA rfl) rfl rfl rfl rfl rfl rfl rfl IF (AZ rfl) rfl fun w5 M => A4 (A5 (A9 (A0 (BI M (AA rfl) rfl rfl 56 rfl [.nilFunc] R4 rfl fun g6 w6 hg6 M => ?_))))))))
  refine A4 (A5 (A9 (A0 (ya rfl (CC (us := []) (vs := [pg gp, pg g4, pg g5, pg g6]) rfl rfl rfl) (BP (cs' := [.func (.func 92) #[] #[pg gp, pg g4, pg g5, pg g6]]) M 0 (AA rfl) rfl rfl rfl rfl rfl rfl rfl RF (AZ rfl) rfl fun w7 M => A4 (A5 (A9 (A0 (yl rfl rfl (M.cell 0 rfl rfl) (yb rfl (yl rfl rfl (M.cell 3 rfl rfl) ?_)))))))))))
  have M := Mem.join2 (M.pk [1, 2, 0, 3]) (As.fresh g5 g12 []) ⟨M.blk 1 rfl, M.neMp 1 2 rfl rfl (by decide), [], M.mp 2 rfl, fun _ => by simp [D5]⟩ (fun g hg => by simpa [As.fresh, As.blk, As.mp] using hg)
  have hSn := M.newF 0 rfl
  have h6n := M.neFresh 1 0 rfl rfl (by decide)
  refine cl 17 rfl (BK rfl rfl rfl call92) (cT m a ix gx gp g4 g5 g12 g6 w ho hx hp h4 hSn h6n m.fls.length y.id [] _ (p1 m []) M.fr (M.freshF 0 rfl) (M.blk 1 rfl)) ?_
  rintro _ w8 ⟨rfl, hFw8, hfw8⟩
  have M := M.updFresh 0 rfl hFw8 hfw8
  exact ⟨_, rfl, A4 (A5 (A9 (A0 (yl rfl rfl (Blk.c (M.freshC 0 rfl) 0 rfl) (yb rfl (yl rfl rfl (M.cell 2 rfl rfl) (ya rfl (U9 rfl rfl rfl underlying113 underlying9 VN (M.freshF 0 rfl)) (yb rfl (yb rfl (A4 (A5 (AF (AK rfl rfl ⟨by rw [W8, if_neg (BE h11)], M.fr⟩)))))))))))))⟩
theorem mN (m : Md) (a : MdA) (ix : IxA) (gx : Nat) (w : World) (ho : MdOk m) (hx : IxAt w m a ix gx) :
 Calls prog 31 #[pg gx] w fun e w' => e = .returned (JF (ffE (W8 m) m.els)) ∧ Fr0 w w' := by
 refine AJ (vs := [_]) func31 rfl ntmps31 rfl ?_
 have M := CN w
 refine A9 (A0 (B4 M (AA rfl) rfl rfl 67 rfl rfl ([pg gx]) rfl fun g1 w1 hg1 M => yb rfl (yb rfl (A4 (A5 (A9 (A0 (ya rfl (CC (us := []) (vs := [pg g1]) rfl rfl rfl) (BI M (AA rfl) rfl rfl 91 rfl [.nilFunc] FD rfl fun g4 w2 hg4 M => BP (cs' := [.func (.func 90) #[] #[pg g1]]) M 0 (AA rfl) rfl rfl rfl rfl rfl rfl rfl FH (AZ rfl) rfl fun w3 M => A4 ?_)))))))))
 refine A5 (A9 (A0 (yl rfl rfl (M.cell 1 rfl rfl) (yb rfl (yb rfl (yb rfl (yl rfl rfl (Blk.c ((hx.fr0 M.fr).blk) 3 rfl) (ya rfl (CC (us := []) (vs := [pg g4, pg g1]) rfl rfl rfl) (cp M 12 rfl (AE rfl rfl call63) (IC _ _ m.els (by have := ho.nfls; have := ho.nels; have := ho.nvars; omega) 91 [pg g4, pg g1] (W8 m) _ (GO call91 (fun z hz w9 hf9 => mO m a ix gx g1 g4 z w9 ho ((hx.fr0 M.fr).fr0 hf9) ((M.blk 1 rfl).fr0 hf9) ((M.blk 0 rfl).fr0 hf9))) (M.rd hx.md.els)) fun w4 M => ?_)))))))))
 iterate 4 refine yb rfl ?_
 exact A4 (A5 (AF (CA rfl rfl rfl ⟨congrArg Ending.returned (T1 _ _), M.fr⟩)))
end Go.Proofs.YtdaihdknnlphkaaGreatDoor
