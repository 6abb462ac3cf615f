/- The rules of the program: nine: printed by gw/ru8.py. Condition: none. -/
import Derived.Test.YtadgfojhjnkliaaGreatDoorZRu7
set_option maxHeartbeats 16000000
set_option maxRecDepth 100000
namespace Go.Proofs.YtadgfojhjnkliaaGreatDoor
open Go.RowKit
theorem Mem.freshF {w0 w : World} {S : Nat → Prop} {L : List As} (M : Mem w0 S L w) (i : Nat) {g3 g6 : Nat} {seen : List (List UInt8)} (hi : L[i]? = some (As.fresh g3 g6 seen)) : Fresh w g3 g6 seen := M.ok i _ hi
theorem Mem.freshC {w0 w : World} {S : Nat → Prop} {L : List As} (M : Mem w0 S L w) (i : Nat) {g3 g6 : Nat} {seen : List (List UInt8)} (hi : L[i]? = some (As.fresh g3 g6 seen)) : Blk w g3 132 [.map (some g6)] := (M.freshF i hi).1
theorem SD {e : Env} {w : World} {o : Oper} {t kt el : TypeId} {x i : Operand} {g3 g6 : Nat} {k : List UInt8} {seen : List (List UInt8)} (ho : o.op = .lookup t x i false) (hx : ev e x = some (.map (some g6))) (hi : ev e i = some (str k)) (hu : Tryz.prog.underlying t = some (.map kt el)) (hd : Tryz.prog.underlying kt = some .string)
 (hz : (Tryz.prog.info? el).map (·.zero) = some (some (.bool false))) (hF : Fresh w g3 g6 seen) : Y Tryz.prog e o w (.bool (decide (k ∈ seen))) := by
 obtain ⟨_, _, L, hm, hL⟩ := hF
 exact C5 ho hx hi hu hd hz hm (hL k)
theorem TV {Q : Exit → Act → World → Prop} {n : Nat} {e : Env} {w w0 : World} {S : Nat → Prop} {L : List As} {ops : Array Oper} {o : Oper} {rest : List Oper} (M : Mem w0 S L w) (i : Nat) (hw : Wn ops e o) (hd : o.dst = none) {t kt el g3 g6 : Nat} {mp ix x : Operand} {key : List UInt8} {seen : List (List UInt8)} (ho : o.op = .mapUpdate t mp ix x) (hm : ev e mp = some (.map (some g6))) (hx : ev e ix = some (str key)) (hv : ev e x = some (.bool true)) (hu : Tryz.prog.underlying t = some (.map kt el)) (hk : Tryz.prog.underlying kt = some .string)
 (hi : L[i]? = some (As.fresh g3 g6 seen)) (k : ∀ w', Mem w0 S (L.set i (As.fresh g3 g6 (key :: seen))) w' → SxL Tryz.prog ops Q n rest e w') : SxL Tryz.prog ops Q n (o :: rest) e w := by
 obtain ⟨hc, hne, K, hm', hL⟩ := M.freshF i hi
 refine CK none hw hd rfl (fun ρ hρ => G6 ho (hρ _ _ hm) (hρ _ _ hx) (hρ _ _ hv) hu hk hm') ?_
 rintro _ w1 ⟨rfl, hf, hb⟩
 exact k w1 (M.updFresh i hi ⟨hc.fr hf hne, hne, _, hb, NU hL⟩ (hf.mono fun _ _ e => .inr e))
def IJ (m : Md) (s : List (List UInt8)) : Nat := (m.fls.filter fun f => !(decide (f.tg ∈ s))).length
theorem TA {α : Type} {p q : α → Bool} : ∀ l : List α, (∀ x ∈ l, q x = true → p x = true) → (l.filter q).length ≤ (l.filter p).length
 | [], _ => Nat.le_refl _
 | y :: t, h => by
  have h1 := TA t (fun x hx => h x (List.mem_cons_of_mem _ hx))
  rw [List.filter_cons, List.filter_cons]
  by_cases hy : q y = true
  ·rw [if_pos hy, if_pos (h y (by simp) hy), List.length_cons, List.length_cons]; omega
  ·rw [if_neg hy]
   split
   ·rw [List.length_cons]; omega
   ·exact h1
theorem T9 {α : Type} {p q : α → Bool} : ∀ {l : List α} {f : α}, f ∈ l → (∀ x ∈ l, q x = true → p x = true) → p f = true → q f = false → (l.filter q).length < (l.filter p).length
 | x :: r, f, hf, hpq, hp, hq => by
  rw [List.filter_cons, List.filter_cons]
  have h1 := TA r (fun x hx => hpq x (List.mem_cons_of_mem _ hx))
  rcases List.mem_cons.1 hf with rfl | hf
  ·rw [if_pos hp, if_neg (by rw [hq]; decide), List.length_cons]; omega
  ·have h2 := T9 hf (fun x hx => hpq x (List.mem_cons_of_mem _ hx)) hp hq
   by_cases hy : q x = true
   ·rw [if_pos hy, if_pos (hpq x (by simp) hy), List.length_cons, List.length_cons]; omega
   ·rw [if_neg hy]
    split
    ·rw [List.length_cons]; omega
    ·exact h2
theorem bD {m : Md} {s : List (List UInt8)} {k : List UInt8} {f : Fl} (hf : f ∈ BN m.fls k) (h : decide (f.tg ∈ s) = false) : IJ m (f.tg :: s) < IJ m s := by
 have hf' : f ∈ m.fls := (List.mem_filter.1 hf).1
 refine T9 hf' (fun x _ hx => ?_) (by rw [h]; rfl) (by simp)
 simp only [List.mem_cons, Bool.not_eq_true', decide_eq_false_iff_not] at hx ⊢
 exact fun z => hx (.inr z)
def JQ (m : Md) (rc : List UInt8 → List (List UInt8) → List (List UInt8)) : List Fl → List (List UInt8) → List (List UInt8)
 | [], s => s
 | f :: r, s => if (OH m f.tg && (!(decide (f.tg ∈ s)))) = true then JQ m rc r (rc f.tg (f.tg :: s)) else JQ m rc r s
theorem M0 {m : Md} {N : Nat} {rc : List UInt8 → List (List UInt8) → List (List UInt8)} (hmono : ∀ k' s', IJ m s' < N → IJ m (rc k' s') ≤ IJ m s') {k : List UInt8} : ∀ (l : List Fl) (s : List (List UInt8)), (∀ f ∈ l, f ∈ BN m.fls k) → IJ m s ≤ N → IJ m (JQ m rc l s) ≤ IJ m s
 | [], _, _, _ => Nat.le_refl _
 | f :: r, s, hl, hN => by
  rw [JQ]
  split
  ·rename_i h
   have hlt := bD (s := s) (hl f (by simp)) (C4 (C8 h).2)
   have h1 := hmono f.tg (f.tg :: s) (Nat.lt_of_lt_of_le hlt hN)
   have h2 := M0 hmono r (rc f.tg (f.tg :: s)) (fun x hx => hl x (List.mem_cons_of_mem _ hx)) (by omega)
   omega
  ·exact M0 hmono r s (fun x hx => hl x (List.mem_cons_of_mem _ hx)) hN
def SE (m : Md) : Nat → List UInt8 → List (List UInt8) → List (List UInt8)
 | 0, k, s => JQ m (fun _ s => s) (BN m.fls k) s
 | n + 1, k, s => JQ m (SE m n) (BN m.fls k) s
def mX (m : Md) : Nat → List UInt8 → List (List UInt8) → List (List UInt8)
 | 0 => fun _ s => s
 | n + 1 => SE m n
theorem VA (m : Md) (n : Nat) (k : List UInt8) (s : List (List UInt8)) : SE m n k s = JQ m (mX m n) (BN m.fls k) s := by cases n <;> rfl
theorem V9 (m : Md) : ∀ (n : Nat) (k : List UInt8) (s : List (List UInt8)), IJ m s ≤ n → IJ m (SE m n k s) ≤ IJ m s
 | 0, k, s, h => M0 (N := 0) (fun _ _ h => by omega) (k := k) _ s (fun _ hf => hf) h
 | n + 1, k, s, h => M0 (N := n + 1) (fun k' s' h' => V9 m n k' s' (by omega)) (k := k) _ s (fun _ hf => hf) h
theorem ZQ (m : Md) (n : Nat) : ∀ (k : List UInt8) (s : List (List UInt8)), IJ m s < n → IJ m (mX m n k s) ≤ IJ m s := fun k s h => by
 cases n with
 | zero => omega
 | succ n => exact V9 m n k s (by omega)
theorem Mem.join2 {w0 w : World} {S : Nat → Prop} {L : List As} {a b : As} (M : Mem w0 S (a :: b :: L) w) (c : As) (hok : c.ok w) (hfp : ∀ g ∈ c.fp, g ∈ a.fp ∨ g ∈ b.fp) : Mem w0 S (c :: L) w := by
 have get : ∀ (i : Nat) (d : As), L[i]? = some d → (a :: b :: L)[i + 2]? = some d := fun i d h => h
 have fp : ∀ k, k ∈ c.fp → ∃ (i : Nat) (d : As), i < 2 ∧ (a :: b :: L)[i]? = some d ∧ k ∈ d.fp := fun k hk => by
  rcases hfp k hk with h | h
  ·exact ⟨0, _, by decide, rfl, h⟩
  ·exact ⟨1, _, by decide, rfl, h⟩
 refine ⟨M.fr, ?_, ?_, ?_⟩
 ·intro i d hi
  cases i with
  | zero => simp only [List.getElem?_cons_zero, Option.some.injEq] at hi; subst hi; exact hok
  | succ i => exact M.ok (i + 2) d (get i d (by simpa using hi))
 ·intro i d hi k hk
  cases i with
  | zero =>
   simp only [List.getElem?_cons_zero, Option.some.injEq] at hi; subst hi
   obtain ⟨j, e, _, h1, h2⟩ := fp k hk
   exact M.lt j e h1 k h2
  | succ i => exact M.lt (i + 2) d (get i d (by simpa using hi)) k hk
 ·intro i j d e hi hj hne k hk hk'
  cases i with
  | zero =>
   cases j with
   | zero => exact hne rfl
   | succ j =>
    simp only [List.getElem?_cons_zero, Option.some.injEq] at hi; subst hi
    obtain ⟨q, d', hq, h1, h2⟩ := fp k hk
    exact M.apart q (j + 2) d' e h1 (get j e (by simpa using hj)) (by omega) k h2 hk'
  | succ i =>
   cases j with
   | zero =>
    simp only [List.getElem?_cons_zero, Option.some.injEq] at hj; subst hj
    obtain ⟨q, d', hq, h1, h2⟩ := fp k hk'
    exact M.apart (i + 2) q d d' (get i d (by simpa using hi)) h1 (by omega) k hk h2
   | succ j => exact M.apart (i + 2) (j + 2) d e (get i d (by simpa using hi)) (get j e (by simpa using hj)) (by omega) k hk hk'
theorem kV (m : Md) (s : List (List UInt8)) : IJ m s ≤ m.fls.length := List.length_filter_le _ _
def dE (m : Md) (y : El) : Bool := if (!(OH m y.id)) = true then true else !(decide (y.id ∈ SE m m.fls.length y.id []))
theorem PY : (Tryz.prog.info? 197).map (·.size) = some 1 := by kernel_rfl
theorem PM : (Tryz.prog.info? 197).map (·.zero) = some (some (.nilFunc)) := by kernel_rfl
theorem fG (m : Md) (a : MdA) (ix : IxA) (gx gp g4 g5 gm g6 : Nat) (w0 : World) (ho : MdOk m) (hx : IxAt w0 m a ix gx) (hp : Blk w0 gp 87 [.pointer (some ⟨gx, 0, none⟩)]) (h4 : Blk w0 g4 135 [.func (.func 100) #[] #[.pointer (some ⟨gp, 0, none⟩)]]) (hS : ∀ k, (k = g5 ∨ k = gm) → w0.heap.size ≤ k) (hn6 : ¬ (g6 = g5 ∨ g6 = gm)) (N : Nat) (rc : List UInt8 → List (List UInt8) → List (List UInt8)) (hmono : ∀ k' s', IJ m s' < N → IJ m (rc k' s') ≤ IJ m s')
 (hR : ∀ (k' : List UInt8) (s' : List (List UInt8)) (W : World), IJ m s' < N → Fr0 w0 W → Fresh W g5 gm s' → Blk W g6 128 [.func (.func 102) #[] #[.pointer (some ⟨gp, 0, none⟩), .pointer (some ⟨g4, 0, none⟩), .pointer (some ⟨g5, 0, none⟩), .pointer (some ⟨g6, 0, none⟩)]] → Calls Tryz.prog 102 #[str k', .pointer (some ⟨gp, 0, none⟩), .pointer (some ⟨g4, 0, none⟩), .pointer (some ⟨g5, 0, none⟩), .pointer (some ⟨g6, 0, none⟩)] W fun e W' => e = .returned (.tuple #[]) ∧ Fresh W' g5 gm (rc k' s') ∧ Fr (fun k => k = g5 ∨ k = gm) W W')
 (k : List UInt8) (s0 : List (List UInt8)) (w : World) (hN : IJ m s0 ≤ N) (h0 : Fr0 w0 w) (hF : Fresh w g5 gm s0) (h6 : Blk w g6 128 [.func (.func 102) #[] #[.pointer (some ⟨gp, 0, none⟩), .pointer (some ⟨g4, 0, none⟩), .pointer (some ⟨g5, 0, none⟩), .pointer (some ⟨g6, 0, none⟩)]]) :
 Calls Tryz.prog 102 #[str k, .pointer (some ⟨gp, 0, none⟩), .pointer (some ⟨g4, 0, none⟩), .pointer (some ⟨g5, 0, none⟩), .pointer (some ⟨g6, 0, none⟩)] w fun e w' => e = .returned (.tuple #[]) ∧ Fresh w' g5 gm (JQ m rc (BN m.fls k) s0) ∧ Fr (fun k => k = g5 ∨ k = gm) w w' := by
 have hOl := DM m.fls k
 have hnf := ho.nfls
 refine AL (vs := [_, _, _, _, _]) Tryz.func102 rfl Tryz.ntmps102 rfl ?_
 have M : Mem w (fun k => k = g5 ∨ k = gm) [As.fresh g5 gm s0] w := Mem.oneFresh hF
 refine A9 (A0 (yl rfl rfl (Blk.c (hp.fr0 (FB h0 M.fr hS)) 0 rfl) (yb rfl (yb rfl (ya rfl (AW rfl rfl (sc rfl) (Blk.c ((hx.fr0 (FB h0 M.fr hS)).blk) 7 rfl)) (yb rfl (ya rfl (C5 rfl rfl rfl Tryz.underlying137 Tryz.underlying9 zr_sl_api_Flow ((hx.fr0 (FB h0 M.fr hS)).O) (hx.getO _)) (ya rfl (CY rfl rfl (sl rfl)) (yb rfl (A1 (A2 (AZ (CO (fun e wr mz => ∃ (i : Nat) (s : List (List UInt8)), e = [(2, .pointer (some ⟨g4, 0, none⟩)), (3, .pointer (some ⟨g5, 0, none⟩)), (4, .pointer (some ⟨g6, 0, none⟩)), (13, .slice (ix.oA k) ((BN m.fls k).length) (ix.oC k)), (14, .int .i64 (((BN m.fls k).length : Nat) : Int)), (15, .int .i64 ((i : Nat) : Int))] ∧ Mem w (fun k => k = g5 ∨ k = gm) [As.fresh g5 gm s] wr ∧ (i ≤ (BN m.fls k).length) ∧ (IJ m s ≤ N) ∧ (JQ m rc (BN m.fls k) s0 = JQ m rc ((BN m.fls k).drop i) s) ∧ mz = (BN m.fls k).length - i) ⟨0, s0, rfl, M, Nat.zero_le _, hN, rfl, rfl⟩ ⟨rfl, rfl, rfl, rfl, rfl, rfl, trivial⟩ ?_)))))))))))))
 rintro _ w1 _ ⟨i, s, rfl, M, hi, hN, hE, rfl⟩
 refine A9 (A0 (ya rfl (CJ rfl rfl rfl) (A1 (A2 (A9 (AR (b := (decide (((i : Nat) : Int) < (((BN m.fls k).length : Nat) : Int)))) rfl (fun h16 => ?_) (fun h16 => ?_)))))))
 ·have h16p := (of_decide_eq_true h16)
  refine AM (A2 (A9 (AZ (A9 (A0 ?_)))))
  obtain ⟨u, hu⟩ := DY (l := (BN m.fls k)) (i := i) (by omega)
  obtain ⟨b_u, o_u, hA_u⟩ := CN (k := 4) (by omega) ((hx.fr0 (FB h0 M.fr hS)).rdO _) hu
  refine ya rfl (BZ i hA_u rfl rfl rfl (sl rfl) (by omega)) (ya rfl (AO rfl rfl (DK Fl.len ((hx.fr0 (FB h0 M.fr hS)).rdO _) hA_u hu) Tryz.underlying65 rfl CE) (BL M (A4 rfl) rfl rfl 65 rfl [str [], str [], str [], str []] EF rfl fun g7 w2 hg7 M => B8 (cs' := (Fl.cells u)) M 0 (A4 rfl) rfl rfl rfl rfl rfl CE rfl (AQ rfl) (B3 rfl) rfl fun w3 M => A1 (A2 (A9 (A0 (yl rfl rfl (Blk.c (h4.fr0 (FB h0 M.fr hS)) 0 rfl) (yb rfl (yl rfl rfl (M.cell 0 rfl rfl) (AC (some 22) (A4 rfl) rfl rfl (C3 rfl rfl rfl Tryz.call100) (W0 m a ix gx gp u.tg _ ho (hx.fr0 (FB h0 M.fr hS)) (hp.fr0 (FB h0 M.fr hS))) ?_)))))))))
  rintro _ w4 ⟨rfl, hfw4⟩
  refine ⟨_, rfl, ?_⟩
  have M := M.step hfw4
  refine yb rfl (AV 6 [(2, .pointer (some ⟨g4, 0, none⟩)), (3, .pointer (some ⟨g5, 0, none⟩)), (4, .pointer (some ⟨g6, 0, none⟩)), (13, .slice (ix.oA k) ((BN m.fls k).length) (ix.oC k)), (14, .int .i64 (((BN m.fls k).length : Nat) : Int)), (15, .int .i64 ((i : Nat) : Int)), (7, .pointer (some ⟨g7, 0, none⟩)), (29, .bool ((OH m u.tg) && (!(decide (u.tg ∈ s)))))] (fun w' => Mem w (fun k => k = g5 ∨ k = gm) [As.blk g7 65 (Fl.cells u), As.fresh g5 gm s] w') ?_ (fun k23 => ?_))
  ·intro w5 M
   refine A1 (A2 (AR (b := ((OH m u.tg) && (!(decide (u.tg ∈ s))))) rfl (fun h29 => ?_) (fun h29 => ?_)))
   ·have h29p := (And.intro (C8 h29).1 (C4 (C8 h29).2))
    have hlt := bD (m := m) (s := s) (List.mem_of_getElem? hu) (C4 (C8 h29).2)
    refine A9 (A0 (yl rfl rfl (Blk.c (M.freshC 1 rfl) 0 rfl) (yb rfl (yl rfl rfl (M.cell 0 rfl rfl) (TV M 1 (A4 rfl) rfl rfl rfl rfl rfl Tryz.underlying132 Tryz.underlying9 rfl fun w6 M => A1 (A2 (A0 (yl rfl rfl (Blk.c (h6.fr M.fr hn6) 0 rfl) (yb rfl (yl rfl rfl (M.cell 0 rfl rfl) (AC (some 36) (A4 rfl) rfl rfl (C3 rfl rfl rfl Tryz.call102) (hR u.tg (u.tg :: s) _ (Nat.lt_of_lt_of_le hlt hN) (FB h0 M.fr hS) (M.freshF 1 rfl) (h6.fr M.fr hn6)) ?_)))))))))))
    rintro _ w7 ⟨rfl, hFw7, hfw7⟩
    have M := M.updFresh 1 rfl hFw7 hfw7
    refine ⟨_, rfl, A1 (AD (A2 (A0 (ya rfl (CQ rfl rfl rfl (by omega)) (yb rfl (A1 (BP [(2, .pointer (some ⟨g4, 0, none⟩)), (3, .pointer (some ⟨g5, 0, none⟩)), (4, .pointer (some ⟨g6, 0, none⟩)), (13, .slice (ix.oA k) ((BN m.fls k).length) (ix.oC k)), (14, .int .i64 (((BN m.fls k).length : Nat) : Int)), (15, .int .i64 (((i + 1) : Nat) : Int))] ((BN m.fls k).length - (i + 1)) ⟨i + 1, (rc u.tg (u.tg :: s)), rfl, (M.pick [1] (by decide)), ?_, ?_, ?_, rfl⟩ (by first | omega | (simp only [List.length_append, List.length_cons, List.length_nil]; omega)) ⟨rfl, rfl, rfl, rfl, rfl, rfl, trivial⟩)))))))⟩
    ·omega
    ·first
      | exact Nat.le_trans (hmono _ _ (Nat.lt_of_lt_of_le hlt hN)) (Nat.le_trans (Nat.le_of_lt hlt) hN)
      | exact hN
    ·rw [hE, BJ hu, JQ]
     first
      | rw [if_pos h29]
      | rw [if_neg (BD h29)]
   ·have h29p := ((E9 h29).imp (fun z => z) (fun z => (C6 z)))
    refine AM (AD (A2 (A0 (ya rfl (CQ rfl rfl rfl (by omega)) (yb rfl (A1 (BP [(2, .pointer (some ⟨g4, 0, none⟩)), (3, .pointer (some ⟨g5, 0, none⟩)), (4, .pointer (some ⟨g6, 0, none⟩)), (13, .slice (ix.oA k) ((BN m.fls k).length) (ix.oC k)), (14, .int .i64 (((BN m.fls k).length : Nat) : Int)), (15, .int .i64 (((i + 1) : Nat) : Int))] ((BN m.fls k).length - (i + 1)) ⟨i + 1, s, rfl, (M.pick [1] (by decide)), ?_, ?_, ?_, rfl⟩ (by first | omega | (simp only [List.length_append, List.length_cons, List.length_nil]; omega)) ⟨rfl, rfl, rfl, rfl, rfl, rfl, trivial⟩)))))))
    ·omega
    ·first
      | exact Nat.le_trans (hmono _ _ (Nat.lt_of_lt_of_le hlt hN)) (Nat.le_trans (Nat.le_of_lt hlt) hN)
      | exact hN
    ·rw [hE, BJ hu, JQ]
     first
      | rw [if_pos h29]
      | rw [if_neg (BD h29)]
  refine AF (d := 23) (b := (OH m u.tg)) rfl (fun h23 => ?_) (fun h23 => ?_)
  ·exact ym rfl rfl (Blk.c (M.freshC 1 rfl) 0 rfl) (yd rfl (yp rfl) (ym rfl rfl (M.cell 0 rfl rfl) (yd rfl (SD rfl rfl rfl Tryz.underlying132 Tryz.underlying9 TP (M.freshF 1 rfl)) (yd rfl (yp rfl) (yb rfl (k23 _ _ M ⟨rfl, rfl, rfl, rfl, rfl, rfl, rfl, (by rw [h23]; rfl), trivial⟩))))))
  ·iterate 5 refine yo rfl ?_
   exact yb rfl (k23 _ _ M ⟨rfl, rfl, rfl, rfl, rfl, rfl, rfl, (by rw [h23]; rfl), trivial⟩)
 ·have h16p := (of_decide_eq_false h16)
  refine CF (AJ (AJ (BE (DC (Or.inr rfl) rfl ?_))))
  obtain rfl : i = (BN m.fls k).length := by omega
  exact ⟨rfl, by rw [hE, List.drop_length]; exact M.ok 0 _ rfl, M.fr⟩
theorem ZF (m : Md) (a : MdA) (ix : IxA) (gx gp g4 g5 gm g6 : Nat) (w0 : World) (ho : MdOk m) (hx : IxAt w0 m a ix gx) (hp : Blk w0 gp 87 [.pointer (some ⟨gx, 0, none⟩)]) (h4 : Blk w0 g4 135 [.func (.func 100) #[] #[.pointer (some ⟨gp, 0, none⟩)]]) (hS : ∀ k, (k = g5 ∨ k = gm) → w0.heap.size ≤ k) (hn6 : ¬ (g6 = g5 ∨ g6 = gm)) : ∀ (N : Nat) (k : List UInt8) (s0 : List (List UInt8)) (w : World), IJ m s0 ≤ N → Fr0 w0 w → Fresh w g5 gm s0 → Blk w g6 128 [.func (.func 102) #[] #[.pointer (some ⟨gp, 0, none⟩), .pointer (some ⟨g4, 0, none⟩), .pointer (some ⟨g5, 0, none⟩), .pointer (some ⟨g6, 0, none⟩)]] →
 Calls Tryz.prog 102 #[str k, .pointer (some ⟨gp, 0, none⟩), .pointer (some ⟨g4, 0, none⟩), .pointer (some ⟨g5, 0, none⟩), .pointer (some ⟨g6, 0, none⟩)] w fun e w' => e = .returned (.tuple #[]) ∧ Fresh w' g5 gm (SE m N k s0) ∧ Fr (fun k => k = g5 ∨ k = gm) w w'
 | 0, k, s0, w, hN, h0, hF, h6 => VA m 0 k s0 ▸ fG m a ix gx gp g4 g5 gm g6 w0 ho hx hp h4 hS hn6 0 (mX m 0) (ZQ m 0) (fun _ _ _ h => by omega) k s0 w hN h0 hF h6
 | N + 1, k, s0, w, hN, h0, hF, h6 => VA m (N + 1) k s0 ▸ fG m a ix gx gp g4 g5 gm g6 w0 ho hx hp h4 hS hn6 (N + 1) (mX m (N + 1)) (ZQ m (N + 1)) (fun k' s' W h h0' hF' h6' => ZF m a ix gx gp g4 g5 gm g6 w0 ho hx hp h4 hS hn6 N k' s' W (by omega) h0' hF' h6') k s0 w hN h0 hF h6
theorem iP (m : Md) (a : MdA) (ix : IxA) (gx gp g4 : Nat) (y : El) (w : World) (ho : MdOk m) (hx : IxAt w m a ix gx) (hp : Blk w gp 87 [.pointer (some ⟨gx, 0, none⟩)]) (h4 : Blk w g4 135 [.func (.func 100) #[] #[.pointer (some ⟨gp, 0, none⟩)]]) :
 Calls Tryz.prog 101 #[.agg y.cells.toArray, .pointer (some ⟨g4, 0, none⟩), .pointer (some ⟨gp, 0, none⟩)] w fun e w' => e = .returned (.bool (dE m y)) ∧ Fr0 w w' := by
 refine AL (vs := [_, _, _]) Tryz.func101 rfl Tryz.ntmps101 rfl ?_
 have M := CM w
 refine A9 (A0 (BG M (A4 rfl) rfl rfl 62 rfl rfl (El.cells y) rfl fun g3 w1 hg3 M => yb rfl (A1 (A2 (A9 (A9 (A0 (yl rfl rfl (Blk.c (h4.fr0 M.fr) 0 rfl) (yb rfl (yl rfl rfl (M.cell 0 rfl rfl) (AC (some 10) (A4 rfl) rfl rfl (C3 rfl rfl rfl Tryz.call100) (W0 m a ix gx gp y.id _ ho (hx.fr0 M.fr) (hp.fr0 M.fr)) ?_)))))))))))
 rintro _ w2 ⟨rfl, hfw2⟩
 refine ⟨_, rfl, ?_⟩
 have M := M.step hfw2
 refine yb rfl (A1 (A2 (AR (b := (!(OH m y.id))) rfl (fun h11 => ?_) (fun h11 => ?_))))
 ·have h11p := (C4 h11)
  exact A9 (A0 (yb rfl (A1 (A2 (AE (AA (AI rfl rfl ⟨by rw [dE, if_pos h11], M.fr⟩)))))))
 ·have h11p := (C6 h11)
  refine AM (A2 (A9 (A0 (HM M (A4 rfl) rfl rfl rfl fun g12 w3 hg12 M => BL M (A4 rfl) rfl rfl 132 rfl [.map none] I0 rfl fun g5 w4 hg5 M => BU (cs' := [.map (some g12)]) M 0 (A4 rfl) rfl rfl rfl rfl rfl rfl rfl I3 (B5 rfl) rfl fun w5 M => A1 (A2 (A9 (A0 (BL M (A4 rfl) rfl rfl 128 rfl [.nilFunc] PM rfl fun g6 w6 hg6 M => ?_))))))))
  refine A1 (A2 (A9 (A0 (ya rfl (CT (us := []) (vs := [.pointer (some ⟨gp, 0, none⟩), .pointer (some ⟨g4, 0, none⟩), .pointer (some ⟨g5, 0, none⟩), .pointer (some ⟨g6, 0, none⟩)]) rfl rfl rfl) (BU (cs' := [.func (.func 102) #[] #[.pointer (some ⟨gp, 0, none⟩), .pointer (some ⟨g4, 0, none⟩), .pointer (some ⟨g5, 0, none⟩), .pointer (some ⟨g6, 0, none⟩)]]) M 0 (A4 rfl) rfl rfl rfl rfl rfl rfl rfl PY (B5 rfl) rfl fun w7 M => A1 (A2 (A9 (A0 (yl rfl rfl (M.cell 0 rfl rfl) (yb rfl (yl rfl rfl (M.cell 3 rfl rfl) ?_)))))))))))
  have M := Mem.join2 (M.pick [1, 2, 0, 3] (by decide)) (As.fresh g5 g12 []) ⟨M.blk 1 rfl, M.neMp 1 2 rfl rfl (by decide), [], M.mp 2 rfl, fun _ => by simp [CG]⟩ (fun g hg => by simpa [As.fresh, As.blk, As.mp] using hg)
  have hSn := M.newF 0 rfl
  have h6n := M.neFresh 1 0 rfl rfl (by decide)
  refine AC (some 17) (A4 rfl) rfl rfl (C3 rfl rfl rfl Tryz.call102) (ZF m a ix gx gp g4 g5 g12 g6 w ho hx hp h4 hSn h6n m.fls.length y.id [] _ (kV m []) M.fr (M.freshF 0 rfl) (M.blk 1 rfl)) ?_
  rintro _ w8 ⟨rfl, hFw8, hfw8⟩
  have M := M.updFresh 0 rfl hFw8 hfw8
  exact ⟨_, rfl, A1 (A2 (A9 (A0 (yl rfl rfl (Blk.c (M.freshC 0 rfl) 0 rfl) (yb rfl (yl rfl rfl (M.cell 2 rfl rfl) (ya rfl (SD rfl rfl rfl Tryz.underlying132 Tryz.underlying9 TP (M.freshF 0 rfl)) (yb rfl (yb rfl (A1 (A2 (AE (AI rfl rfl ⟨by rw [dE, if_neg (BD h11)], M.fr⟩)))))))))))))⟩
theorem iO (m : Md) (a : MdA) (ix : IxA) (gx : Nat) (w : World) (ho : MdOk m) (hx : IxAt w m a ix gx) :
 Calls Tryz.prog 39 #[.pointer (some ⟨gx, 0, none⟩)] w fun e w' => e = .returned (IU (ffE (dE m) m.els)) ∧ Fr0 w w' := by
 refine AL (vs := [_]) Tryz.func39 rfl Tryz.ntmps39 rfl ?_
 have M := CM w
 refine A9 (A0 (BG M (A4 rfl) rfl rfl 87 rfl rfl ([.pointer (some ⟨gx, 0, none⟩)]) rfl fun g1 w1 hg1 M => yb rfl (yb rfl (A1 (A2 (A9 (A0 (ya rfl (CT (us := []) (vs := [.pointer (some ⟨g1, 0, none⟩)]) rfl rfl rfl) (BL M (A4 rfl) rfl rfl 135 rfl [.nilFunc] F3 rfl fun g4 w2 hg4 M => BU (cs' := [.func (.func 100) #[] #[.pointer (some ⟨g1, 0, none⟩)]]) M 0 (A4 rfl) rfl rfl rfl rfl rfl rfl rfl F4 (B5 rfl) rfl fun w3 M => A1 ?_)))))))))
 refine A2 (A9 (A0 (yl rfl rfl (M.cell 1 rfl rfl) (yb rfl (yb rfl (yb rfl (yl rfl rfl (Blk.c ((hx.fr0 M.fr).blk) 3 rfl) (ya rfl (CT (us := []) (vs := [.pointer (some ⟨g4, 0, none⟩), .pointer (some ⟨g1, 0, none⟩)]) rfl rfl rfl) (AC (some 12) (A4 rfl) rfl rfl (AG rfl rfl Tryz.call74) (HY _ _ m.els (by have := ho.nfls; have := ho.nels; have := ho.nvars; omega) 101 [.pointer (some ⟨g4, 0, none⟩), .pointer (some ⟨g1, 0, none⟩)] (dE m) _ (GE Tryz.call101 (fun z hz w9 hf9 => iP m a ix gx g1 g4 z w9 ho ((hx.fr0 M.fr).fr0 hf9) ((M.blk 1 rfl).fr0 hf9) ((M.blk 0 rfl).fr0 hf9))) (M.rd hx.md.els)) ?_)))))))))
 rintro _ w4 ⟨rfl, hfw4⟩
 refine ⟨_, rfl, ?_⟩
 have M := M.step hfw4
 iterate 4 refine yb rfl ?_
 exact A1 (A2 (AE (C1 rfl rfl rfl ⟨congrArg Ending.returned (R9 _ _), M.fr⟩)))
end Go.Proofs.YtadgfojhjnkliaaGreatDoor
