/- Lemmas that the last text rests on. Condition: each says its own. -/
import Derived.Test.YtjaocmocdhckaaaGreatDoorZRu7
import Derived.Test.YtjaocmocdhckaaaGreatDoorZRu9
set_option maxHeartbeats 16000000
set_option maxRecDepth 100000
namespace Go.Proofs.YtjaocmocdhckaaaGreatDoor
open Go.RowKit
open Tryz
theorem Mem.freshF {w0 w : World} {S : Nat → Prop} {L : List As} (M : Mem w0 S L w) (i : Nat) {g3 g6 : Nat} {seen : List (List UInt8)} (hi : L[i]? = some (As.fresh g3 g6 seen)) : Fresh w g3 g6 seen := M.ok i _ hi
theorem Mem.freshC {w0 w : World} {S : Nat → Prop} {L : List As} (M : Mem w0 S L w) (i : Nat) {g3 g6 : Nat} {seen : List (List UInt8)} (hi : L[i]? = some (As.fresh g3 g6 seen)) : Blk w g3 86 [.map (some g6)] := (M.freshF i hi).1
theorem T7 {e : Env} {w : World} {o : Oper} {t kt el : TypeId} {x i : Operand} {g3 g6 : Nat} {k : List UInt8} {seen : List (List UInt8)} (ho : o.op = .lookup t x i false) (hx : ev e x = some (.map (some g6))) (hi : ev e i = some (str k)) (hu : prog.underlying t = some (.map kt el)) (hd : prog.underlying kt = some .string)
 (hz : (prog.info? el).map (·.zero) = some (some (.bool false))) (hF : Fresh w g3 g6 seen) : Y prog e o w (.bool (decide (k ∈ seen))) := by
 obtain ⟨_, _, L, hm, hL⟩ := hF
 exact BT ho hx hi hu hd hz hm (hL k)
theorem UE {Q : Exit → Act → World → Prop} {n : Nat} {e : Env} {w w0 : World} {S : Nat → Prop} {L : List As} {ops : Array Oper} {o : Oper} {rest : List Oper} (M : Mem w0 S L w) (i : Nat) (hw : Wn ops e o) (hd : o.dst = none) {t kt el g3 g6 : Nat} {mp ix x : Operand} {key : List UInt8} {seen : List (List UInt8)} (ho : o.op = .mapUpdate t mp ix x) (hm : ev e mp = some (.map (some g6))) (hx : ev e ix = some (str key)) (hv : ev e x = some (.bool true)) (hu : prog.underlying t = some (.map kt el)) (hk : prog.underlying kt = some .string)
 (hi : L[i]? = some (As.fresh g3 g6 seen)) (k : ∀ w', Mem w0 S (L.set i (As.fresh g3 g6 (key :: seen))) w' → SxL prog ops Q n rest e w') : SxL prog ops Q n (o :: rest) e w := by
 obtain ⟨hc, hne, K, hm', hL⟩ := M.freshF i hi
 refine CH none hw hd rfl (fun ρ hρ => HY ho (hρ _ _ hm) (hρ _ _ hx) (hρ _ _ hv) hu hk hm') ?_
 rintro _ w1 ⟨rfl, hf, hb⟩
 exact k w1 (M.updFresh i hi ⟨hc.fr hf hne, hne, _, hb, PO hL⟩ (hf.mono fun _ _ e => .inr e))
def JK (m : Md) (s : List (List UInt8)) : Nat := (m.fls.filter fun f => !(decide (f.tg ∈ s))).length
theorem TU {α : Type} {p q : α → Bool} : ∀ l : List α, (∀ x ∈ l, q x = true → p x = true) → (l.filter q).length ≤ (l.filter p).length
 | [], _ => Nat.le_refl _
 | y :: t, h => by
  have h1 := TU t (fun x hx => h x (List.mem_cons_of_mem _ hx))
  rw [List.filter_cons, List.filter_cons]
  by_cases hy : q y = true
  ·rw [if_pos hy, if_pos (h y (by simp) hy), List.length_cons, List.length_cons]; omega
  ·rw [if_neg hy]
   split
   ·rw [List.length_cons]; omega
   ·exact h1
theorem TT {α : Type} {p q : α → Bool} : ∀ {l : List α} {f : α}, f ∈ l → (∀ x ∈ l, q x = true → p x = true) → p f = true → q f = false → (l.filter q).length < (l.filter p).length
 | x :: r, f, hf, hpq, hp, hq => by
  rw [List.filter_cons, List.filter_cons]
  have h1 := TU r (fun x hx => hpq x (List.mem_cons_of_mem _ hx))
  rcases List.mem_cons.1 hf with rfl | hf
  ·rw [if_pos hp, if_neg (by rw [hq]; decide), List.length_cons]; omega
  ·have h2 := TT hf (fun x hx => hpq x (List.mem_cons_of_mem _ hx)) hp hq
   by_cases hy : q x = true
   ·rw [if_pos hy, if_pos (hpq x (by simp) hy), List.length_cons, List.length_cons]; omega
   ·rw [if_neg hy]
    split
    ·rw [List.length_cons]; omega
    ·exact h2
theorem aJ {m : Md} {s : List (List UInt8)} {k : List UInt8} {f : Fl} (hf : f ∈ CE m.fls k) (h : decide (f.tg ∈ s) = false) : JK m (f.tg :: s) < JK m s := by
 have hf' : f ∈ m.fls := (List.mem_filter.1 hf).1
 refine TT hf' (fun x _ hx => ?_) (by rw [h]; rfl) (by simp)
 simp only [List.mem_cons, Bool.not_eq_true', decide_eq_false_iff_not] at hx ⊢
 exact fun z => hx (.inr z)
def L7 (m : Md) (rc : List UInt8 → List (List UInt8) → List (List UInt8)) : List Fl → List (List UInt8) → List (List UInt8)
 | [], s => s
 | f :: r, s => if (W7 m f.tg && (!(decide (f.tg ∈ s)))) = true then L7 m rc r (rc f.tg (f.tg :: s)) else L7 m rc r s
theorem O4 {m : Md} {N : Nat} {rc : List UInt8 → List (List UInt8) → List (List UInt8)} (hmono : ∀ k' s', JK m s' < N → JK m (rc k' s') ≤ JK m s') {k : List UInt8} : ∀ (l : List Fl) (s : List (List UInt8)), (∀ f ∈ l, f ∈ CE m.fls k) → JK m s ≤ N → JK m (L7 m rc l s) ≤ JK m s
 | [], _, _, _ => Nat.le_refl _
 | f :: r, s, hl, hN => by
  rw [L7]
  split
  ·rename_i h
   have hlt := aJ (s := s) (hl f (by simp)) (CK (CL h).2)
   have h1 := hmono f.tg (f.tg :: s) (Nat.lt_of_lt_of_le hlt hN)
   have h2 := O4 hmono r (rc f.tg (f.tg :: s)) (fun x hx => hl x (List.mem_cons_of_mem _ hx)) AM
   omega
  ·exact O4 hmono r s (fun x hx => hl x (List.mem_cons_of_mem _ hx)) hN
def T8 (m : Md) : Nat → List UInt8 → List (List UInt8) → List (List UInt8)
 | 0, k, s => L7 m (fun _ s => s) (CE m.fls k) s
 | n + 1, k, s => L7 m (T8 m n) (CE m.fls k) s
def mI (m : Md) : Nat → List UInt8 → List (List UInt8) → List (List UInt8)
 | 0 => fun _ s => s
 | n + 1 => T8 m n
theorem VN (m : Md) (n : Nat) (k : List UInt8) (s : List (List UInt8)) : T8 m n k s = L7 m (mI m n) (CE m.fls k) s := by cases n <;> rfl
theorem VM (m : Md) : ∀ (n : Nat) (k : List UInt8) (s : List (List UInt8)), JK m s ≤ n → JK m (T8 m n k s) ≤ JK m s
 | 0, k, s, h => O4 (N := 0) (fun _ _ h => by omega) (k := k) _ s (fun _ hf => hf) h
 | n + 1, k, s, h => O4 (N := n + 1) (fun k' s' h' => VM m n k' s' AM) (k := k) _ s (fun _ hf => hf) h
theorem ZK (m : Md) (n : Nat) : ∀ (k : List UInt8) (s : List (List UInt8)), JK m s < n → JK m (mI m n k s) ≤ JK m s := fun k s h => by
 cases n with
 | zero => omega
 | succ n => exact VM m n k s AM
theorem Mem.join2 {w0 w : World} {S : Nat → Prop} {L : List As} {a b : As} (M : Mem w0 S (a :: b :: L) w) (c : As) (hok : c.ok w) (hfp : ∀ g ∈ c.fp, g ∈ a.fp ∨ g ∈ b.fp) : Mem w0 S (c :: L) w := by
 have get : ∀ (i : Nat) (d : As), L[i]? = some d → (a :: b :: L)[i + 2]? = some d := fun i d h => h
 have fp : ∀ k, k ∈ c.fp → ∃ (i : Nat) (d : As), i < 2 ∧ (a :: b :: L)[i]? = some d ∧ k ∈ d.fp := fun k hk => by
  rcases hfp k hk with h | h
  ·exact ⟨0, _, by decide, rfl, h⟩
  ·exact ⟨1, _, by decide, rfl, h⟩
 refine ⟨M.fr, ?_, ?_, ?_⟩
 ·intro i d hi
  cases i with
  | zero => simp only [List.getElem?_cons_zero, Option.some.injEq] at hi; subst hi; exact hok
  | succ i => exact M.ok (i + 2) d (get i d (by simpa using hi))
 ·intro i d hi k hk
  cases i with
  | zero =>
   simp only [List.getElem?_cons_zero, Option.some.injEq] at hi; subst hi
   obtain ⟨j, e, _, h1, h2⟩ := fp k hk
   exact M.lt j e h1 k h2
  | succ i => exact M.lt (i + 2) d (get i d (by simpa using hi)) k hk
 ·intro i j d e hi hj hne k hk hk'
  cases i with
  | zero =>
   cases j with
   | zero => exact hne rfl
   | succ j =>
    simp only [List.getElem?_cons_zero, Option.some.injEq] at hi; subst hi
    obtain ⟨q, d', hq, h1, h2⟩ := fp k hk
    exact M.apart q (j + 2) d' e h1 (get j e (by simpa using hj)) AM k h2 hk'
  | succ i =>
   cases j with
   | zero =>
    simp only [List.getElem?_cons_zero, Option.some.injEq] at hj; subst hj
    obtain ⟨q, d', hq, h1, h2⟩ := fp k hk'
    exact M.apart (i + 2) q d d' (get i d (by simpa using hi)) h1 AM k hk h2
   | succ j => exact M.apart (i + 2) (j + 2) d e (get i d (by simpa using hi)) (get j e (by simpa using hj)) AM k hk hk'
theorem kG (m : Md) (s : List (List UInt8)) : JK m s ≤ m.fls.length := List.length_filter_le _ _
def cC (m : Md) (y : El) : Bool := if (!(W7 m y.id)) = true then true else !(decide (y.id ∈ T8 m m.fls.length y.id []))
theorem RB : (prog.info? 199).map (·.size) = some 1 := by kernel_rfl
theorem QY : (prog.info? 199).map (·.zero) = some (some (.nilFunc)) := by kernel_rfl
theorem eH (m : Md) (a : MdA) (ix : IxA) (gx gp g4 g5 gm g6 : Nat) (w0 : World) (ho : MdOk m) (hx : IxAt w0 m a ix gx) (hp : Blk w0 gp 95 [pg gx]) (h4 : Blk w0 g4 89 [.func (.func 103) #[] #[pg gp]]) (hS : ∀ k, (k = g5 ∨ k = gm) → w0.heap.size ≤ k) (hn6 : ¬ (g6 = g5 ∨ g6 = gm)) (N : Nat) (rc : List UInt8 → List (List UInt8) → List (List UInt8)) (hmono : ∀ k' s', JK m s' < N → JK m (rc k' s') ≤ JK m s')
 (hR : ∀ (k' : List UInt8) (s' : List (List UInt8)) (W : World), JK m s' < N → Fr0 w0 W → Fresh W g5 gm s' → Blk W g6 127 [.func (.func 105) #[] #[pg gp, pg g4, pg g5, pg g6]] → Calls prog 105 #[str k', pg gp, pg g4, pg g5, pg g6] W fun e W' => e = .returned (.tuple #[]) ∧ Fresh W' g5 gm (rc k' s') ∧ Fr (fun k => k = g5 ∨ k = gm) W W')
 (k : List UInt8) (s0 : List (List UInt8)) (w : World) (hN : JK m s0 ≤ N) (h0 : Fr0 w0 w) (hF : Fresh w g5 gm s0) (h6 : Blk w g6 127 [.func (.func 105) #[] #[pg gp, pg g4, pg g5, pg g6]]) :
 Calls prog 105 #[str k, pg gp, pg g4, pg g5, pg g6] w fun e w' => e = .returned (.tuple #[]) ∧ Fresh w' g5 gm (L7 m rc (CE m.fls k) s0) ∧ Fr (fun k => k = g5 ∨ k = gm) w w' := by
 have hOl := EM m.fls k
 have hnf := ho.nfls
 refine BE (vs := [_, _, _, _, _]) func105 rfl ntmps105 rfl ?_
 have M : Mem w (fun k => k = g5 ∨ k = gm) [As.fresh g5 gm s0] w := Mem.oneFresh hF
 refine srg (yl rfl rfl (Blk.c (hp.fr0 (CA h0 M.fr hS)) 0 rfl) (BM rfl rfl (ya rfl (BW rfl rfl (sc rfl) (Blk.c ((hx.fr0 (CA h0 M.fr hS)).blk) 7 rfl)) (yb rfl (ya rfl (BT rfl rfl rfl underlying140 underlying9 zr_sl_api_Flow ((hx.fr0 (CA h0 M.fr hS)).O) (hx.getO _)) (ya rfl (C3 rfl rfl (sl rfl)) (AY rfl (AS (flp [14, 13, 4, 3, 2] (fun ze e wr mz => ∃ (i : Nat) (s : List (List UInt8)), e = (15, AJ ((i : Nat) : Int)) :: ze ∧ Mem w (fun k => k = g5 ∨ k = gm) [As.fresh g5 gm s] wr ∧ (i ≤ (CE m.fls k).length) ∧ (JK m s ≤ N) ∧ (L7 m rc (CE m.fls k) s0 = L7 m rc ((CE m.fls k).drop i) s) ∧ mz = (CE m.fls k).length - i) ⟨0, s0, rfl, M, Nat.zero_le _, hN, rfl, rfl⟩ ?_)))))))))
 rintro _ w1 _ ⟨i, s, rfl, M, hi, hN, hE, rfl⟩
 refine srg (CF rfl rfl (nq (AF (AL rfl (fun h16 => ?_) (fun h16 => ?_)))))
 ·have h16p := (odt h16)
  refine AI (AD (AF (AS (srg ?_))))
  obtain ⟨u, hu⟩ := CC (l := (CE m.fls k)) (i := i) AM
  obtain ⟨b_u, o_u, hA_u⟩ := BI (k := 4) AM ((hx.fr0 (CA h0 M.fr hS)).rdO _) hu
  refine ya rfl (B1 i hA_u rfl rfl rfl (sl rfl) AM) (ya rfl (AU rfl rfl (BV Fl.len ((hx.fr0 (CA h0 M.fr hS)).rdO _) hA_u hu) underlying72 rfl D3) (DC M rfl FF fun g7 w2 hg7 M => C4 M 0 rfl rfl D3 rfl fun w3 M => N2 (yl rfl rfl (Blk.c (h4.fr0 (CA h0 M.fr hS)) 0 rfl) (yb rfl (BC M 0 rfl rfl rfl (OZ M 22 rfl (BX rfl rfl rfl call103) (WJ m a ix gx gp u.tg _ ho (hx.fr0 (CA h0 M.fr hS)) (hp.fr0 (CA h0 M.fr hS))) fun w4 M => yb rfl (DI 6 [(2, pg g4), (3, pg g5), (4, pg g6), (13, .slice (ix.oA k) ((CE m.fls k).length) (ix.oC k)), (14, AJ (((CE m.fls k).length : Nat) : Int)), (15, AJ ((i : Nat) : Int)), (7, pg g7), (29, .bool ((W7 m u.tg) && (!(decide (u.tg ∈ s)))))] (fun w' => Mem w (fun k => k = g5 ∨ k = gm) [As.blk g7 72 (Fl.cells u), As.fresh g5 gm s] w') ?_ (fun k23 => ?_))))))))
  ·intro w5 M
   refine nq (AL rfl (fun h29 => ?_) (fun h29 => ?_))
   ·have h29p := (And.intro (CL h29).1 (CK (CL h29).2))
    have hlt := aJ (m := m) (s := s) (List.mem_of_getElem? hu) (CK (CL h29).2)
    refine srg (yl rfl rfl (Blk.c (M.freshC 1 rfl) 0 rfl) (yb rfl (BC M 0 rfl rfl rfl (UE M 1 (AA rfl) rfl rfl rfl rfl rfl underlying86 underlying9 rfl fun w6 M => nq (AK (yl rfl rfl (Blk.c (h6.fr M.fr hn6) 0 rfl) (yb rfl (BC M 0 rfl rfl rfl (cl 36 rfl (BX rfl rfl rfl call105) (hR u.tg (u.tg :: s) _ (Nat.lt_of_lt_of_le hlt hN) (CA h0 M.fr hS) (M.freshF 1 rfl) (h6.fr M.fr hn6)) ?_)))))))))
    rintro _ w7 ⟨rfl, hFw7, hfw7⟩
    have M := M.updFresh 1 rfl hFw7 hfw7
    refine ⟨_, rfl, AR (AE (AD (AK (ya rfl (BO rfl rfl rfl AM) (yb rfl (AR (fag ⟨i + 1, (rc u.tg (u.tg :: s)), rfl, (M.pk [1]), ?_, ?_, ?_, rfl⟩)))))))⟩
    ·omega
    ·first
      | exact Nat.le_trans (hmono _ _ (Nat.lt_of_lt_of_le hlt hN)) (Nat.le_trans (Nat.le_of_lt hlt) hN)
      | exact hN
    ·rw [hE, B7 hu, L7]
     first
      | rw [if_pos h29]
      | rw [AT h29]
   ·have h29p := ((DT h29).imp (fun z => z) (fun z => (BQ z)))
    refine AI (AE (AD (AK (ya rfl (BO rfl rfl rfl AM) (yb rfl (AR (fag ⟨i + 1, s, rfl, (M.pk [1]), ?_, ?_, ?_, rfl⟩)))))))
    ·omega
    ·first
      | exact Nat.le_trans (hmono _ _ (Nat.lt_of_lt_of_le hlt hN)) (Nat.le_trans (Nat.le_of_lt hlt) hN)
      | exact hN
    ·rw [hE, B7 hu, L7]
     first
      | rw [if_pos h29]
      | rw [AT h29]
  refine AO (d := 23) rfl (fun h23 => ?_) (fun h23 => ?_)
  ·exact ym rfl rfl (Blk.c (M.freshC 1 rfl) 0 rfl) (gyq rfl (CJ M 0 rfl rfl rfl (yd rfl (T7 rfl rfl rfl underlying86 underlying9 O0 (M.freshF 1 rfl)) (gyq rfl (yb rfl (k23 _ _ M ⟨rfl, rfl, rfl, rfl, rfl, rfl, rfl, (by rw [h23]; rfl), trivial⟩))))))
  ·iterate 5 refine yo rfl ?_
   exact yb rfl (k23 _ _ M ⟨rfl, rfl, rfl, rfl, rfl, rfl, rfl, (by rw [h23]; rfl), trivial⟩)
 ·have h16p := (odf h16)
  refine BF (AG (AG (AV (CM (Or.inr rfl) rfl ?_))))
  obtain rfl : i = (CE m.fls k).length := by omega
  exact ⟨rfl, by rw [hE, List.drop_length]; exact M.ok 0 _ rfl, M.fr⟩
theorem Z4 (m : Md) (a : MdA) (ix : IxA) (gx gp g4 g5 gm g6 : Nat) (w0 : World) (ho : MdOk m) (hx : IxAt w0 m a ix gx) (hp : Blk w0 gp 95 [pg gx]) (h4 : Blk w0 g4 89 [.func (.func 103) #[] #[pg gp]]) (hS : ∀ k, (k = g5 ∨ k = gm) → w0.heap.size ≤ k) (hn6 : ¬ (g6 = g5 ∨ g6 = gm)) : ∀ (N : Nat) (k : List UInt8) (s0 : List (List UInt8)) (w : World), JK m s0 ≤ N → Fr0 w0 w → Fresh w g5 gm s0 → Blk w g6 127 [.func (.func 105) #[] #[pg gp, pg g4, pg g5, pg g6]] →
 Calls prog 105 #[str k, pg gp, pg g4, pg g5, pg g6] w fun e w' => e = .returned (.tuple #[]) ∧ Fresh w' g5 gm (T8 m N k s0) ∧ Fr (fun k => k = g5 ∨ k = gm) w w'
 | 0, k, s0, w, hN, h0, hF, h6 => VN m 0 k s0 ▸ eH m a ix gx gp g4 g5 gm g6 w0 ho hx hp h4 hS hn6 0 (mI m 0) (ZK m 0) (fun _ _ _ h => by omega) k s0 w hN h0 hF h6
 | N + 1, k, s0, w, hN, h0, hF, h6 => VN m (N + 1) k s0 ▸ eH m a ix gx gp g4 g5 gm g6 w0 ho hx hp h4 hS hn6 (N + 1) (mI m (N + 1)) (ZK m (N + 1)) (fun k' s' W h h0' hF' h6' => Z4 m a ix gx gp g4 g5 gm g6 w0 ho hx hp h4 hS hn6 N k' s' W AM h0' hF' h6') k s0 w hN h0 hF h6
theorem iD (m : Md) (a : MdA) (ix : IxA) (gx gp g4 : Nat) (y : El) (w : World) (ho : MdOk m) (hx : IxAt w m a ix gx) (hp : Blk w gp 95 [pg gx]) (h4 : Blk w g4 89 [.func (.func 103) #[] #[pg gp]]) :
 Calls prog 104 #[.agg y.cells.toArray, pg g4, pg gp] w (CG w (.bool (cC m y))) := by
 refine C5 func104 ntmps104 rfl fun M => srg (CR M rfl rfl fun g3 w1 hg3 M => AY rfl (AF (srg (yl rfl rfl (Blk.c (h4.fr0 M.fr) 0 rfl) (yb rfl (BC M 0 rfl rfl rfl (OZ M 10 rfl (BX rfl rfl rfl call103) (WJ m a ix gx gp y.id _ ho (hx.fr0 M.fr) (hp.fr0 M.fr)) fun w2 M => yb rfl ?_)))))))
 refine nq (AL rfl (fun h11 => ?_) (fun h11 => ?_))
 ·exact AQ rfl (gnr (AB (gr1 rfl ⟨by rw [cC, if_pos h11], M.fr⟩)))
 ·have h11p := (BQ h11)
  refine AI (AD (srg (ID M (AA rfl) rfl rfl rfl fun g12 w3 hg12 M => DJ M (AA rfl) rfl rfl 86 rfl [.map none] HB rfl fun g5 w4 hg5 M => gp1 M 0 rfl rfl rfl HC fun w5 M => N2 (DJ M (AA rfl) rfl rfl 127 rfl [.nilFunc] QY rfl fun g6 w6 hg6 M => ?_))))
  refine N2 (ya rfl (DE (us := []) (vs := [pg gp, pg g4, pg g5, pg g6]) rfl rfl rfl) (D0 (cs' := [.func (.func 105) #[] #[pg gp, pg g4, pg g5, pg g6]]) M 0 (AA rfl) rfl rfl rfl rfl rfl rfl rfl RB (CO rfl) rfl fun w7 M => N2 (BC M 0 rfl rfl rfl (yb rfl (BC M 3 rfl rfl rfl ?_)))))
  have M := Mem.join2 (M.pk [1, 2, 0, 3]) (As.fresh g5 g12 []) ⟨M.blk 1 rfl, M.neMp 1 2 rfl rfl BU, [], M.mp 2 rfl, fun _ => by simp [CU]⟩ (fun g hg => by simpa [As.fresh, As.blk, As.mp] using hg)
  have hSn := M.newF 0 rfl
  have h6n := M.neFresh 1 0 rfl rfl BU
  refine cl 17 rfl (BX rfl rfl rfl call105) (Z4 m a ix gx gp g4 g5 g12 g6 w ho hx hp h4 hSn h6n m.fls.length y.id [] _ (kG m []) M.fr (M.freshF 0 rfl) (M.blk 1 rfl)) ?_
  rintro _ w8 ⟨rfl, hFw8, hfw8⟩
  have M := M.updFresh 0 rfl hFw8 hfw8
  exact ⟨_, rfl, N2 (yl rfl rfl (Blk.c (M.freshC 0 rfl) 0 rfl) (yb rfl (BC M 2 rfl rfl rfl (ya rfl (T7 rfl rfl rfl underlying86 underlying9 O0 (M.freshF 0 rfl)) (BM rfl rfl (gnr (gr1 rfl ⟨by rw [cC, AT h11], M.fr⟩)))))))⟩
theorem iB (m : Md) (a : MdA) (ix : IxA) (gx : Nat) (w : World) (ho : MdOk m) (hx : IxAt w m a ix gx) :
 Calls prog 44 #[pg gx] w (CG w (JZ (ffE (cC m) m.els))) := by
 refine C5 func44 ntmps44 rfl fun M => srg (E3 M (AA rfl) rfl rfl 95 rfl rfl ([pg gx]) rfl fun g1 w1 hg1 M => yb rfl (AY rfl (srg (ya rfl (DE (us := []) (vs := [pg g1]) rfl rfl rfl) (DJ M (AA rfl) rfl rfl 89 rfl [.nilFunc] GO rfl fun g4 w2 hg4 M => D0 (cs' := [.func (.func 103) #[] #[pg g1]]) M 0 (AA rfl) rfl rfl rfl rfl rfl rfl rfl GR (CO rfl) rfl fun w3 M => ?_)))))
 refine N2 (BC M 1 rfl rfl rfl (BM rfl rfl (yb rfl (yl rfl rfl (Blk.c ((hx.fr0 M.fr).blk) 3 rfl) (ya rfl (DE (us := []) (vs := [pg g4, pg g1]) rfl rfl rfl) (D4 M 12 rfl rfl call77 (J4 _ _ m.els (by have := ho.nfls; have := ho.nels; have := ho.nvars; omega) 104 [pg g4, pg g1] (cC m) _ (GN call104 (fun z hz w9 hf9 => iD m a ix gx g1 g4 z w9 ho ((hx.fr0 M.fr).fr0 hf9) ((M.blk 1 rfl).fr0 hf9) ((M.blk 0 rfl).fr0 hf9))) (M.rd hx.md.els)) fun w4 M => ?_))))))
 iterate 4 refine yb rfl ?_
 exact gnr (CI rfl rfl rfl ⟨congrArg Ending.returned (S1 _ _), M.fr⟩)
def sI : List Value := [.func (.func 36) #[] #[], .func (.func 37) #[] #[], .func (.func 38) #[] #[], .func (.func 39) #[] #[], .func (.func 40) #[] #[], .func (.func 41) #[] #[], .func (.func 42) #[] #[], .func (.func 43) #[] #[], .func (.func 44) #[] #[]]
def SJ (m : Md) : List (Option (List UInt8)) := [HU m, ffE (UA m) m.els, ffF (LS m) m.fls, ffE (IS m) m.els, aA m, W2 m, ffE (KT m) m.els, ffE (NV m) m.els, ffE (cC m) m.els]
theorem r8 (m : Md) (a : MdA) (ix : IxA) (gx : Nat) (ho : MdOk m) : ∀ i, i < 9 → ∃ fd b, sI[i]? = some (.func (.func fd) #[] #[]) ∧ (SJ m)[i]? = some b ∧ (∀ (ar : Array Value) (w : World), (callFunc fd ar).run prog w = .ok (.enter fd ar) w) ∧
 ∀ W, IxAt W m a ix gx → Lay0 W → Calls prog fd #[pg gx] W (CG W (.tuple #[str (b.getD []), .bool b.isSome])) := by
 intro i hi
 match i, hi with
 | 0, _ => exact ⟨_, _, rfl, rfl, call36, fun W hx hY => mQ m a ix gx W ho hx hY⟩
 | 1, _ => exact ⟨_, _, rfl, rfl, call37, fun W hx _ => lW m a ix gx W ho hx⟩
 | 2, _ => exact ⟨_, _, rfl, rfl, call38, fun W hx _ => bG m a ix gx W ho hx⟩
 | 3, _ => exact ⟨_, _, rfl, rfl, call39, fun W hx _ => jB m a ix gx W ho hx⟩
 | 4, _ => exact ⟨_, _, rfl, rfl, call40, fun W hx _ => jG m a ix gx W ho hx⟩
 | 5, _ => exact ⟨_, _, rfl, rfl, call41, fun W hx hY => mE m a ix gx W ho hx hY⟩
 | 6, _ => exact ⟨_, _, rfl, rfl, call42, fun W hx _ => bO m a ix gx W ho hx⟩
 | 7, _ => exact ⟨_, _, rfl, rfl, call43, fun W hx _ => dA m a ix gx W ho hx⟩
 | 8, _ => exact ⟨_, _, rfl, rfl, call44, fun W hx _ => iB m a ix gx W ho hx⟩
 | i + 9, hi => omega
def HX : Nat → List (Option (List UInt8)) → Nat × List UInt8 × Int
 | _, [] => (0, [], 0)
 | i, some k :: _ => (i + 1, k, 140)
 | i, none :: r => HX (i + 1) r
theorem T1 {i : Nat} {b : Option (List UInt8)} {r : List (Option (List UInt8))} (h : b.isSome = false) : HX i (b :: r) = HX (i + 1) r := by
 cases b with
 | none => rfl
 | some k => cases h
theorem T0 {i : Nat} {b : Option (List UInt8)} {r : List (Option (List UInt8))} (h : b.isSome = true) : HX i (b :: r) = (i + 1, b.getD [], 140) := by
 cases b with
 | none => cases h
 | some k => rfl
def OI (m : Md) : Nat × List UInt8 × Int := HX 0 (SJ m)
theorem PM : (prog.info? 99).map (fun i => (i.zero, i.size)) = some (some (.nilFunc), 1) := by kernel_rfl
theorem UI (m : Md) (a : MdA) (w : World) (ho : MdOk m) (hM : MdIn w m a) (hY : Lay0 w) :
 Calls prog 15 #[.agg (Md.cells m a).toArray] w (CG w (.tuple #[AJ (((OI m).1 : Nat) : Int), str (OI m).2.1, AJ (OI m).2.2])) := by
 refine C5 func15 ntmps15 rfl fun M => srg (CR M rfl rfl fun g1 w1 hg1 M => BM rfl rfl (AY rfl (srg (CW M 0 rfl rfl underlying26 C0 rfl (cl 11 rfl (AP rfl rfl call35) (RU m a _ ho (hM.fr0 M.fr)) ?_)))))
 rintro _ w2 ⟨ix, gx, FX, rfl, hix, hnx, hfw2⟩
 refine ⟨_, rfl, ?_⟩
 have M := M.push hfw2 (As.ixp m a ix gx FX) hix hnx
 refine AY rfl (AF (srg (DF M (AA rfl) rfl rfl [.func (.func 36) #[] #[], .func (.func 37) #[] #[], .func (.func 38) #[] #[], .func (.func 39) #[] #[], .func (.func 40) #[] #[], .func (.func 41) #[] #[], .func (.func 42) #[] #[], .func (.func 43) #[] #[], .func (.func 44) #[] #[]] ([.func (.func 36) #[] #[], .func (.func 37) #[] #[], .func (.func 38) #[] #[], .func (.func 39) #[] #[], .func (.func 40) #[] #[], .func (.func 41) #[] #[], .func (.func 42) #[] #[], .func (.func 43) #[] #[], .func (.func 44) #[] #[]]) rfl rfl rfl rfl underlying98 PM rfl rfl (by intro v hv; simp only [List.mem_cons, List.not_mem_nil, or_false] at hv; rcases hv with rfl | rfl | rfl | rfl | rfl | rfl | rfl | rfl | rfl <;> rfl) rfl fun g12 w3 hg12 M => ya rfl (C3 rfl rfl (sl rfl)) (AY rfl (AS (flp [13, 12, 5] (fun ze e wr mz => ∃ (i : Nat), e = (14, AJ ((i : Nat) : Int)) :: ze ∧ Mem w B0 [As.blk g12 99 [.func (.func 36) #[] #[], .func (.func 37) #[] #[], .func (.func 38) #[] #[], .func (.func 39) #[] #[], .func (.func 40) #[] #[], .func (.func 41) #[] #[], .func (.func 42) #[] #[], .func (.func 43) #[] #[], .func (.func 44) #[] #[]], As.ixp m a ix gx FX, As.blk g1 26 (Md.cells m a)] wr ∧ (i ≤ 9) ∧ (HX 0 (SJ m) = HX i ((SJ m).drop i)) ∧ mz = 9 - i) ⟨0, rfl, M, Nat.zero_le _, rfl, rfl⟩ ?_))))))
 rintro _ w4 _ ⟨i, rfl, M, hi, hE, rfl⟩
 refine srg (CF rfl rfl (nq (AF (AL rfl (fun h15 => ?_) (fun h15 => ?_)))))
 ·have h15p := (odt h15)
  have hil : i < 9 := by omega
  refine AI (AD (AF (AS (AQ rfl ?_))))
  obtain ⟨fd, b, hfd, hbk, hen, hcl⟩ := r8 m a ix gx ho i hil
  refine ya rfl (VI (j := i) rfl rfl rfl (sl rfl) AM) (yl rfl rfl (Blk.c (M.blk 0 rfl) (0 + i * 1) (by rw [Nat.zero_add, Nat.mul_one]; exact hfd)) (yb rfl (AY rfl (AQ rfl (yb rfl (OZ M 22 rfl (BX rfl rfl rfl hen) (hcl _ (IxN.at (M.ok 1 _ rfl) (hM.fr0 M.fr)) (hY.fr0 M.fr)) fun w5 M => ?_))))))
  iterate 5 refine yb rfl ?_
  refine N2 (AY rfl (AL rfl (fun h25 => ?_) (fun h25 => ?_)))
  ·refine AQ rfl (ya rfl (BO rfl rfl rfl AM) ?_)
   iterate 4 refine yb rfl ?_
   exact gnr (AN (AB (AB (AN (AB (IY rfl rfl rfl rfl ⟨by rw [OI, hE, B7 hbk, T0 h25] <;> rfl, M.fr⟩))))))
  ·refine AI (AE (AD (AK (ya rfl (BO rfl rfl rfl AM) (yb rfl (AR (fag ⟨i + 1, rfl, M, ?_, ?_, rfl⟩)))))))
   ·omega
   ·rw [hE, B7 hbk, T1 h25]
 ·have h15p := (odf h15)
  refine BF (AG (AG ?_))
  obtain rfl : i = 9 := by omega
  exact AV (AD (AQ rfl (BM rfl rfl (gnr (IY rfl rfl rfl rfl ⟨by rw [OI, hE]; rfl, M.fr⟩)))))
end Go.Proofs.YtjaocmocdhckaaaGreatDoor
