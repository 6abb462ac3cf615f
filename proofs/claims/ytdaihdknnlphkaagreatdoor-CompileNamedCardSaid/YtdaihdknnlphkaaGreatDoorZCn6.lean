/- Lemmas that the last text rests on. Condition: each says its own. -/
import Derived.Test.YtdaihdknnlphkaaGreatDoorZCn5
set_option maxHeartbeats 16000000
set_option maxRecDepth 100000
namespace Go.Proofs.YtdaihdknnlphkaaGreatDoor
open Go.RowKit
open Tryz
theorem uL : (prog.info? 62).map (·.zero) = some (some .nilFunc) := by kernel_rfl
theorem ZV {P : Program} {e : Env} {w : World} {o : Oper} {t kt el : TypeId} {x i : Operand} {g : Nat} {k : UInt8} {L : List (UInt8 × Value)} {z : Value} (ho : o.op = .lookup t x i false) (hx : ev e x = some (.map (some g))) (hi : ev e i = some (ku k)) (hu : P.underlying t = some (.map kt el)) (hd : P.underlying kt = some (.int .u8))
 (hz : (P.info? el).map (·.zero) = some (some z)) (hM : MpU w g L) : Y P e o w ((LD L k).getD z) := fQ ho hx hi hu hd hz hM
theorem Mem.splice {w0 w : World} {S : Nat → Prop} {a : As} {L1 Ls : List As} (M : Mem w0 S (a :: Ls) w) (M1 : Mem w (fun k => k ∈ a.fp) L1 w) : Mem w0 S (L1 ++ Ls) w := by
 have hin : ∀ (i : Nat) (b : As), (L1 ++ Ls)[i]? = some b → (∃ j, L1[j]? = some b ∧ i = j) ∨ ∃ j, Ls[j]? = some b ∧ i = L1.length + j := fun i b h => by
  by_cases hi : i < L1.length
  ·rw [List.getElem?_append_left hi] at h; exact .inl ⟨i, h, rfl⟩
  ·rw [List.getElem?_append_right (by omega)] at h; exact .inr ⟨_, h, by omega⟩
 have hl : ∀ (j : Nat) (b : As), Ls[j]? = some b → (a :: Ls)[j + 1]? = some b := fun j b h => h
 refine ⟨M.fr, fun i b hi => ?_, fun i b hi g hg => ?_, fun i j b c hi hj hne g hg hg' => ?_⟩
 ·rcases hin i b hi with ⟨j, h, _⟩ | ⟨j, h, _⟩
  ·exact M1.ok j b h
  ·exact M.ok (j + 1) b (hl j b h)
 ·rcases hin i b hi with ⟨j, h, _⟩ | ⟨j, h, _⟩
  ·exact M.lt 0 a rfl g (M1.fpIn h g hg).2
  ·exact M.lt (j + 1) b (hl j b h) g hg
 ·rcases hin i b hi with ⟨i', h1, rfl⟩ | ⟨i', h1, rfl⟩ <;> rcases hin j c hj with ⟨j', h2, rfl⟩ | ⟨j', h2, rfl⟩
  ·exact M1.apart _ _ b c h1 h2 hne g hg hg'
  ·exact M.apart 0 (j' + 1) a c rfl (hl j' c h2) (by omega) g (M1.fpIn h1 g hg).2 hg'
  ·exact M.apart (i' + 1) 0 b a (hl i' b h1) rfl (by omega) g hg (M1.fpIn h2 g hg').2
  ·exact M.apart (i' + 1) (j' + 1) b c (hl i' b h1) (hl j' c h2) (by omega) g hg hg'
def fps (L : List As) : List Nat := (L.map (·.fp)).flatten
theorem LV {L : List As} {g : Nat} : g ∈ fps L ↔ ∃ (i : Nat) (b : As), L[i]? = some b ∧ g ∈ b.fp := by
 unfold fps
 rw [List.mem_flatten]
 constructor
 ·rintro ⟨l, hl, hg⟩
  obtain ⟨b, hb, rfl⟩ := List.mem_map.1 hl
  obtain ⟨i, hi⟩ := List.getElem?_of_mem hb
  exact ⟨i, b, hi, hg⟩
 ·rintro ⟨i, b, hi, hg⟩
  exact ⟨b.fp, List.mem_map.2 ⟨b, List.mem_of_getElem? hi, rfl⟩, hg⟩
theorem Mem.alone {w0 w : World} {S : Nat → Prop} {L1 Ls : List As} (M : Mem w0 S (L1 ++ Ls) w) : Mem w (fun k => k ∈ fps L1) L1 w := by
 have hl : ∀ (i : Nat) (b : As), L1[i]? = some b → (L1 ++ Ls)[i]? = some b := fun i b h => by
  rw [List.getElem?_append_left (List.getElem?_eq_some_iff.1 h).1]; exact h
 exact ⟨Fr.refl, fun i b hi => M.ok i b (hl i b hi), fun i b hi g hg => ⟨(M.lt i b (hl i b hi) g hg).1, .inr (LV.2 ⟨i, b, hi, hg⟩)⟩, fun i j b c hi hj => M.apart i j b c (hl i b hi) (hl j c hj)⟩
theorem Mem.gather {w0 w : World} {S : Nat → Prop} {L1 Ls : List As} (M : Mem w0 S (L1 ++ Ls) w) (c : As) (hok : c.ok w) (hfp : ∀ g ∈ c.fp, g ∈ fps L1) : Mem w0 S (c :: Ls) w := by
 have hl : ∀ (i : Nat) (b : As), L1[i]? = some b → (L1 ++ Ls)[i]? = some b := fun i b h => by
  rw [List.getElem?_append_left (List.getElem?_eq_some_iff.1 h).1]; exact h
 have hr : ∀ (i : Nat) (b : As), (c :: Ls)[i + 1]? = some b → (L1 ++ Ls)[L1.length + i]? = some b := fun i b h => by
  rw [List.getElem?_append_right (by omega), show L1.length + i - L1.length = i by omega]; exact h
 refine ⟨M.fr, fun i b hi => ?_, fun i b hi g hg => ?_, fun i j b d hi hj hne g hg hg' => ?_⟩
 ·cases i with
  | zero => simp only [List.getElem?_cons_zero, Option.some.injEq] at hi; subst hi; exact hok
  | succ i => exact M.ok _ b (hr i b hi)
 ·cases i with
  | zero =>
   simp only [List.getElem?_cons_zero, Option.some.injEq] at hi; subst hi
   obtain ⟨k, q, hq, hgq⟩ := LV.1 (hfp g hg)
   exact M.lt k q (hl k q hq) g hgq
  | succ i => exact M.lt _ b (hr i b hi) g hg
 ·cases i with
  | zero =>
   cases j with
   | zero => exact hne rfl
   | succ j =>
    simp only [List.getElem?_cons_zero, Option.some.injEq] at hi; subst hi
    obtain ⟨k, q, hq, hgq⟩ := LV.1 (hfp g hg)
    have := (List.getElem?_eq_some_iff.1 hq).1
    exact M.apart k _ q d (hl k q hq) (hr j d hj) (by omega) g hgq hg'
  | succ i =>
   cases j with
   | zero =>
    simp only [List.getElem?_cons_zero, Option.some.injEq] at hj; subst hj
    obtain ⟨k, q, hq, hgq⟩ := LV.1 (hfp g hg')
    have := (List.getElem?_eq_some_iff.1 hq).1
    exact M.apart _ k b q (hr i b hi) (hl k q hq) (by omega) g hg hgq
   | succ j => exact M.apart _ _ b d (hr i b hi) (hr j d hj) (by omega) g hg hg'
theorem Mem.openMk {w0 w : World} {S : Nat → Prop} {Ls : List As} {m : Md} {a : MdA} {gx : Nat} {fin : Int} {pl : List (List UInt8)} {ts : List Tr1} {F : List Nat} (M : Mem w0 S (As.mk_ m a gx fin pl ts F :: Ls) w) :
 ∃ x : MkA, (∀ k, (D5 x.L k).getD (.int .i64 0) = .int .i64 ((idxP pl k : Nat) : Int)) ∧ Mem w0 S (MkA.parts m gx { x with a := a, fin := fin } pl ts ++ Ls) w := by
 obtain ⟨_, _, x, rfl, rfl, hL, M1⟩ := (M.ok 0 _ rfl : MkN w m a gx fin pl ts F)
 exact ⟨x, hL, M.splice M1⟩
theorem Mem.closeMk {w0 w : World} {S : Nat → Prop} {Ls : List As} {m : Md} {x : MkA} {gx : Nat} {pl : List (List UInt8)} {ts : List Tr1} (hL : ∀ k, (D5 x.L k).getD (.int .i64 0) = .int .i64 ((idxP pl k : Nat) : Int)) (M : Mem w0 S (MkA.parts m gx x pl ts ++ Ls) w) :
 ∃ F, Mem w0 S (As.mk_ m x.a gx x.fin pl ts F :: Ls) w := by
 refine ⟨fps (MkA.parts m gx x pl ts), M.gather _ ?_ (fun g hg => hg)⟩
 refine ⟨LV.2 ⟨0, _, rfl, by simp [As.blk]⟩, fun g hg => ?_, x, rfl, rfl, hL, M.alone⟩
 obtain ⟨i, b, hi, hb⟩ := LV.1 hg
 exact (M.alone.lt i b hi g hb).1
theorem Mem.newMk {w0 w : World} {S : Nat → Prop} {Ls : List As} {m : Md} {a : MdA} {gx gP : Nat} (M : Mem w0 S (As.blk gx 55 [str m.id, str m.nm, .slice a.V m.vars.length a.vc, .slice a.E m.els.length a.ec, .slice a.F m.fls.length a.fc, .slice none 0 0, .slice none 0 0, .int .i64 0, .int .i64 0, .map (some gP)] :: As.mp gP [] :: Ls) w) :
 ∃ F, Mem w0 S (As.mk_ m a gx 0 [] [] F :: Ls) w := by
 have M1 := M.push Fr.refl (As.trs [] [] []) (show TrsOk w [] [] [] from ⟨rfl, fun i t r h => by simp at h⟩) (fun g hg => by simp [As.trs] at hg)
 have M2 := M1.push Fr.refl (As.own 0 45 3 (.slice none 0 0) 0 []) (show World.ownsRow w 0 45 3 (.slice none 0 0) 0 [] from ⟨rfl, .inl ⟨rfl, rfl⟩⟩) (fun g hg => by simp [As.own, Value.ownBlock] at hg)
 have M3 := M2.push Fr.refl (As.own 0 9 1 (.slice none 0 0) 0 []) (show World.ownsRow w 0 9 1 (.slice none 0 0) 0 [] from ⟨rfl, .inl ⟨rfl, rfl⟩⟩) (fun g hg => by simp [As.own, Value.ownBlock] at hg)
 have M4 : Mem w0 S (MkA.parts m gx ⟨a, 0, gP, [], none, 0, none, 0, [], []⟩ [] [] ++ Ls) w := by
  have M5 := Mem.alone (L1 := [As.own 0 9 1 (.slice none 0 0) 0 [], As.own 0 45 3 (.slice none 0 0) 0 [], As.trs [] [] [], As.blk gx 55 [str m.id, str m.nm, .slice a.V m.vars.length a.vc, .slice a.E m.els.length a.ec, .slice a.F m.fls.length a.fc, .slice none 0 0, .slice none 0 0, .int .i64 0, .int .i64 0, .map (some gP)], As.mp gP []]) M3
  have M6 := Mem.gather (L1 := [As.own 0 9 1 (.slice none 0 0) 0 [], As.own 0 45 3 (.slice none 0 0) 0 [], As.trs [] [] [], As.blk gx 55 [str m.id, str m.nm, .slice a.V m.vars.length a.vc, .slice a.E m.els.length a.ec, .slice a.F m.fls.length a.fc, .slice none 0 0, .slice none 0 0, .int .i64 0, .int .i64 0, .map (some gP)], As.mp gP []]) M3 ⟨fps [As.own 0 9 1 (.slice none 0 0) 0 [], As.own 0 45 3 (.slice none 0 0) 0 [], As.trs [] [] [], As.blk gx 55 [str m.id, str m.nm, .slice a.V m.vars.length a.vc, .slice a.E m.els.length a.ec, .slice a.F m.fls.length a.fc, .slice none 0 0, .slice none 0 0, .int .i64 0, .int .i64 0, .map (some gP)], As.mp gP []], fun _ => True, fun _ _ => trivial⟩ trivial (fun _ h => h)
  exact M6.splice (M5.pick [3, 4, 0, 1, 2] (by decide))
 exact Mem.closeMk (x := ⟨a, 0, gP, [], none, 0, none, 0, [], []⟩) (fun _ => rfl) M4
section
variable {α : Type} {p : α → Bool} {f : α → List UInt8} {l l' : List α} {x : α} {b pl : List (List UInt8)} (h : pl = b ++ (l.filter p).map f) (hl : l' = l ++ [x])
include h hl
theorem QQ (hp : p x = true) : pl ++ [f x] = b ++ (l'.filter p).map f := by rw [hl, List.filter_append, List.map_append, h, List.append_assoc]; simp [hp]
theorem VZ (hp : p x = false) : pl = b ++ (l'.filter p).map f := by rw [hl, List.filter_append, List.map_append, h]; simp [hp]
end
theorem bM {α β : Type} {f : α → List β} {n : Nat} : ∀ {l : List α}, (∀ a ∈ l, (f a).length ≤ n) → (l.flatMap f).length ≤ l.length * n
 | [], _ => by simp
 | a :: r, h => by
  rw [List.flatMap_cons, List.length_append, List.length_cons, Nat.add_mul]
  have h1 := h a (List.mem_cons_self ..)
  have h2 := bM (l := r) fun b hb => h b (List.mem_cons_of_mem _ hb)
  omega
theorem RA {m : Md} (ho : MdOk m) (y : El) : (CV m y).length ≤ 160000 := by
 have hl1 : (E6 m y.id).length ≤ 400 := Nat.le_trans (SL m y.id) ho.nfls
 have hl2 : (CJ m y.id).length ≤ 400 := Nat.le_trans (LT m y.id) ho.nfls
 unfold CV IZ
 repeat' split
 all_goals first
  | decide
  | (simp only [List.length_cons, List.length_nil]; omega)
  | skip
 ·refine Nat.le_trans (bM (n := 400) fun a _ => by rw [List.length_map]; exact hl2) ?_
  omega
 ·rw [List.length_map]
  have := List.length_filter_le (EN m y) m.els
  have := ho.nels
  omega
structure NetN (w : World) (A B : Option Addr) (rs : List TrR) (pl : List (List UInt8)) (ts : List Tr1) (F : List Nat) : Prop where
 pl : Rd w A (pl.length * 1) (AS D7 pl)
 tr : Rd w B (rs.length * 3) (AS TrR.cells rs)
 ok : TrsOk w F ts rs
 fA : ∀ b off p, A = some ⟨b, off, p⟩ → b ∈ F
 fB : ∀ b off p, B = some ⟨b, off, p⟩ → b ∈ F
theorem NetN.keep {w w' : World} {A B : Option Addr} {rs : List TrR} {pl : List (List UInt8)} {ts : List Tr1} {F : List Nat} (hk : ∀ g ∈ F, g < w.heap.size → w'.heap[g]? = w.heap[g]?) (h : NetN w A B rs pl ts F) : NetN w' A B rs pl ts F :=
 ⟨J8 h.pl hk h.fA, J8 h.tr hk h.fB, h.ok.keep hk fun _ hg => hg, h.fA, h.fB⟩
def uJ (m : Md) (w : World) (e : Ending) (w' : World) : Prop := ∃ A c B d rs F, e = .returned (.tuple #[.agg #[.slice A (CU m).length c, .slice B rs.length d, .int .i64 0, .int .i64 1], .int .i64 0]) ∧ NetN w' A B rs (CU m) (EF m) F ∧ ∀ g ∈ F, w.heap.size ≤ g ∧ g < w'.heap.size
theorem s9 {w w' : World} {m : Md} {gx gP t : Nat} {cs : List Value} {L : List (List UInt8 × Value)} {A B : Option Addr} {c d : Nat} {rs : List TrR} {FT : List Nat} (M : Mem w AD [As.blk gx t cs, As.mp gP L, As.own 0 9 1 (.slice A (CU m).length c) (CU m).length (AS D7 (CU m)), As.own 0 45 3 (.slice B rs.length d) rs.length (AS TrR.cells rs), As.trs FT (EF m) rs] w') :
 uJ m w (.returned (.tuple #[.agg #[.slice A (CU m).length c, .slice B rs.length d, .int .i64 0, .int .i64 1], .int .i64 0])) w' := by
 refine ⟨A, c, B, d, rs, (Value.slice A (CU m).length c).ownBlock.toList ++ ((Value.slice B rs.length d).ownBlock.toList ++ FT), rfl, ⟨OK (M.own 2 rfl), OK (M.own 3 rfl), (M.ok 4 _ rfl : TrsOk w' FT (EF m) rs).keep (fun _ _ _ => rfl) (fun g h => List.mem_append_right _ (List.mem_append_right _ h)), ?_, ?_⟩, ?_⟩
 ·intro b off p e; subst e; exact List.mem_append_left _ (by simp [Value.ownBlock])
 ·intro b off p e; subst e; exact List.mem_append_right _ (List.mem_append_left _ (by simp [Value.ownBlock]))
 ·intro g hg
  have key : ∀ (i : Nat) (a : As), [As.blk gx t cs, As.mp gP L, As.own 0 9 1 (.slice A (CU m).length c) (CU m).length (AS D7 (CU m)), As.own 0 45 3 (.slice B rs.length d) rs.length (AS TrR.cells rs), As.trs FT (EF m) rs][i]? = some a → g ∈ a.fp → w.heap.size ≤ g ∧ g < w'.heap.size := fun i a hi hga => by
   obtain ⟨h1, h2⟩ := M.lt i a hi g hga
   exact ⟨h2.elim id (fun h => h.elim), h1⟩
  rcases List.mem_append.1 hg with h | h
  ·exact key 2 _ rfl h
  ·rcases List.mem_append.1 h with h | h
   ·exact key 3 _ rfl h
   ·exact key 4 _ rfl h
theorem cF  : prog.built 32 [] = some #[.slice none 0 0, .slice none 0 0, .int .i64 0, .int .i64 0] := by kernel_rfl
theorem LM (c0_0 c0_1 c0_2 c0_3 c0_4 : Value) (a2 : Option Nat) : prog.built 55 [(0, .agg #[c0_0, c0_1, c0_2, c0_3, c0_4]), (2, .map a2)] = some #[c0_0, c0_1, c0_2, c0_3, c0_4, .slice none 0 0, .slice none 0 0, .int .i64 0, .int .i64 0, .map a2] := by kernel_rfl
theorem FQ : (prog.info? 32).map (·.size) = some 4 := by kernel_rfl
theorem MV : (prog.info? 32).map (·.zero) = some (some (.agg #[.slice none 0 0, .slice none 0 0, .int .i64 0, .int .i64 0])) := by kernel_rfl
theorem vW (m : Md) (a : MdA) (w : World) (ho : MdOk m) (hM : MdIn w m a) (hY : Lay0 w) :
 Calls prog 6 #[.agg (Md.cells m a).toArray] w fun e w' => ((¬ (EA m).2.2 = 0 ∧ e = .returned (.tuple #[.agg #[.slice none 0 0, .slice none 0 0, .int .i64 0, .int .i64 0], .int .i64 (EA m).2.2])) ∨ ((EA m).2.2 = 0 ∧ uJ m w e w')) ∧ Fr0 w w' := by
 have hne := ho.nels
 have hnf := ho.nfls
 refine AJ (vs := [_]) func6 rfl ntmps6 rfl ?_
 have M := CN w
 refine A9 (A0 (B4 M (AA rfl) rfl rfl 26 rfl rfl (Md.cells m a) rfl fun g1 w1 hg1 M => BI M (AA rfl) rfl rfl 32 rfl [.slice none 0 0, .slice none 0 0, .int .i64 0, .int .i64 0] MV rfl fun g2 w2 hg2 M => yb rfl (A4 (A5 (A9 (A9 (A0 (ya rfl (AU (xs := Md.cells m a) rfl rfl (M.rdBlk 1 rfl rfl) underlying26 rfl BC) (cp M 19 rfl (AE rfl rfl call13) (VY m a _ ho (hM.fr0 M.fr) (hY.fr0 M.fr)) fun w3 M => ?_)))))))))
 iterate 7 refine yb rfl ?_
 refine A4 (A5 (A9 (A0 (yb rfl (ya rfl (CX rfl rfl rfl) (A4 (A5 (AT (b := (!decide ((EA m).2.2 = (0 : Int)))) rfl (fun h24 => ?_) (fun h24 => ?_)))))))))
 ·have h24p := (odf (C4 h24))
  exact A9 (A0 (ya rfl (BU (parts := []) rfl rfl (cF)) (yb rfl (B8 (cs' := [.slice none 0 0, .slice none 0 0, .int .i64 0, .int .i64 0]) M 0 (AA rfl) rfl rfl rfl rfl rfl FQ rfl (AI rfl) (AY rfl) rfl fun w4 M => yb rfl (A4 (A5 (AF (AB (NR rfl rfl (M.rdBlk 0 rfl rfl) underlying32 rfl FQ rfl ⟨.inl ⟨odf (C4 h24), rfl⟩, M.fr⟩)))))))))
 ·have h24p := (odt (C5 h24))
  have h0 : (EA m).2.2 = 0 := odt (C5 h24)
  have hn := Y9 h0
  refine AN (A5 (A9 (A0 (ya rfl (AU (xs := Md.cells m a) rfl rfl (M.rdBlk 1 rfl rfl) underlying26 rfl BC) (J3 M (AA rfl) rfl rfl rfl fun g28 w5 hg28 M => ya rfl (BU (parts := [(0, _), (2, _)]) rfl rfl (LM _ _ _ _ _ _)) (B4 M (AA rfl) rfl rfl 55 rfl rfl ([str m.id, str m.nm, .slice a.V m.vars.length a.vc, .slice a.E m.els.length a.ec, .slice a.F m.fls.length a.fc, .slice none 0 0, .slice none 0 0, .int .i64 0, .int .i64 0, .map (some g28)]) rfl fun g30 w6 hg30 M => ?_))))))
  obtain ⟨F4, M⟩ := Mem.newMk (m := m) (a := a) M
  refine yb rfl (A4 (A5 (A9 (A0 (yb rfl (cl 32 rfl (AE rfl rfl call14) (LS m a g30 0 [] [] F4 [40, 105, 110, 41] _ (by first | omega | exact AI rfl | (simp only [List.length_append, List.length_cons, List.length_nil]; omega)) (M.ok 0 _ rfl)) ?_))))))
  rintro _ w7 ⟨rfl, F32, hNw7, hqw7, hfw7⟩
  refine ⟨_, rfl, ?_⟩
  have M := M.updMk 0 rfl hNw7 hqw7 hfw7
  refine A4 (A5 (A9 (A0 (yb rfl (cl 34 rfl (AE rfl rfl call14) (LS m a g30 0 ([] ++ [[40, 105, 110, 41]]) [] F32 [40, 111, 117, 116, 41] _ (by first | omega | exact AI rfl | (simp only [List.length_append, List.length_cons, List.length_nil]; omega)) (M.ok 0 _ rfl)) ?_)))))
  rintro _ w8 ⟨rfl, F34, hNw8, hqw8, hfw8⟩
  refine ⟨_, rfl, ?_⟩
  have M := M.updMk 0 rfl hNw8 hqw8 hfw8
  refine A4 (A5 (A9 (A0 ?_)))
  obtain ⟨x, hL, M⟩ := Mem.openMk M
  replace M : Mem w AD [As.blk g30 55 [str m.id, str m.nm, .slice a.V m.vars.length a.vc, .slice a.E m.els.length a.ec, .slice a.F m.fls.length a.fc, .slice x.A (([] ++ [[40, 105, 110, 41]] ++ [[40, 111, 117, 116, 41]]).length) x.c, .slice x.B x.rs.length x.d, .int .i64 0, .int .i64 0, .map (some x.gP)], As.mp x.gP x.L, As.own 0 9 1 (.slice x.A ([] ++ [[40, 105, 110, 41]] ++ [[40, 111, 117, 116, 41]]).length x.c) (([] ++ [[40, 105, 110, 41]] ++ [[40, 111, 117, 116, 41]]).length) (AS D7 ([] ++ [[40, 105, 110, 41]] ++ [[40, 111, 117, 116, 41]])), As.own 0 45 3 (.slice x.B x.rs.length x.d) x.rs.length (AS TrR.cells x.rs), As.trs x.FT [] x.rs, As.blk g2 32 [.slice none 0 0, .slice none 0 0, .int .i64 0, .int .i64 0], As.blk g1 26 (Md.cells m a)] w8 := M
  iterate 4 refine yb rfl ?_
  refine yl rfl rfl (M.cell 0 rfl rfl) (ya rfl (CK rfl rfl rfl underlying53 underlying9 kC (M.mp 1 rfl) (hL _)) (yb rfl (yb rfl (yb rfl (BP (cs' := [str m.id, str m.nm, .slice a.V m.vars.length a.vc, .slice a.E m.els.length a.ec, .slice a.F m.fls.length a.fc, .slice x.A (([] ++ [[40, 105, 110, 41]] ++ [[40, 111, 117, 116, 41]]).length) x.c, .slice x.B x.rs.length x.d, .int .i64 0, .int .i64 ((idxP ([] ++ [[40, 105, 110, 41]] ++ [[40, 111, 117, 116, 41]]) [40, 111, 117, 116, 41] : Nat) : Int), .map (some x.gP)]) M 0 (AA rfl) rfl rfl rfl rfl rfl rfl rfl IG (AZ rfl) rfl fun w9 M => A4 (A5 (A9 (A9 (A0 ?_)))))))))
  rw [show ((idxP (([] ++ [[40, 105, 110, 41]]) ++ [[40, 111, 117, 116, 41]]) [40, 111, 117, 116, 41] : Nat) : Int) = 1 from by decide] at M
  obtain ⟨F7, M⟩ := Mem.closeMk (x := { x with a := a, fin := 1 }) hL M
  refine yb rfl (yl rfl rfl (M.cell 2 rfl rfl) (ya rfl (CS rfl rfl (sl rfl)) (yb rfl (A4 (A5 (AV (CL (fun e wr mz => ∃ (j : Nat) (pl1 : List (List UInt8)) (F1 : List Nat), e = [(1, pg g1), (2, pg g2), (7, pg g30), (45, .slice a.F m.fls.length a.fc), (46, .int .i64 ((m.fls.length : Nat) : Int)), (47, .int .i64 ((j : Nat) : Int))] ∧ Mem w AD [As.mk_ m a g30 1 pl1 [] F1, As.blk g2 32 [.slice none 0 0, .slice none 0 0, .int .i64 0, .int .i64 0], As.blk g1 26 (Md.cells m a)] wr ∧ (j ≤ m.fls.length) ∧ (pl1 = [sIn, sOut] ++ ((m.fls.take j).filter (fun f : Fl => !decide ((((AO m.els f.frm).getD zeroEl).kind.toNat : Int) = (7 : Int)))).map (fun f : Fl => f.id)) ∧ (pl1.length ≤ 2 + j) ∧ mz = m.fls.length - j) ⟨0, (([] ++ [[40, 105, 110, 41]]) ++ [[40, 111, 117, 116, 41]]), F7, rfl, M, Nat.zero_le _, rfl, by decide, rfl⟩ ⟨rfl, rfl, rfl, rfl, rfl, rfl, trivial⟩ ?_)))))))
  rintro _ w10 _ ⟨j, pl1, F1, rfl, M, hj, hp1, hb1, rfl⟩
  refine A9 (A0 (ya rfl (CB rfl rfl rfl) (A4 (A5 (A9 (AT (b := (decide (((j : Nat) : Int) < ((m.fls.length : Nat) : Int)))) rfl (fun h48 => ?_) (fun h48 => ?_)))))))
  ·have h48p := (odt h48)
   refine AN (A5 (A9 (AV (A9 (A0 ?_)))))
   obtain ⟨f, hf⟩ := DA (l := m.fls) (i := j) (by omega)
   obtain ⟨b_f, o_f, hA_f⟩ := C7 (k := 4) (by omega) ((hM.fr0 M.fr).fls) hf
   refine ya rfl (BM j hA_f rfl rfl rfl (sl rfl) (by omega)) (ya rfl (AU rfl rfl (DD Fl.len ((hM.fr0 M.fr).fls) hA_f hf) underlying41 rfl C8) (BI M (AA rfl) rfl rfl 41 rfl [str [], str [], str [], str []] FW rfl fun g9 w11 hg9 M => B8 (cs' := (Fl.cells f)) M 0 (AA rfl) rfl rfl rfl rfl rfl C8 rfl (AI rfl) (AY rfl) rfl fun w12 M => A4 (A5 (A9 (A0 (ya rfl (AU (xs := Md.cells m a) rfl rfl (M.rdBlk 3 rfl rfl) underlying26 rfl BC) (yb rfl (yl rfl rfl (M.cell 0 rfl rfl) (cp M 55 rfl (AE rfl rfl call15) (WQ m a f.frm _ ho (hM.fr0 M.fr)) fun w13 M => yb rfl (yb rfl ?_))))))))))
   refine yb rfl (BI M (AA rfl) rfl rfl 39 rfl [str [], str [], .int .u8 0, str [], str [], str [], .int .u8 0, str [], str [], .int .i64 0, .int .i64 0] B7 rfl fun g10 w14 hg10 M => B8 (cs' := (El.cells ((AO m.els f.frm).getD zeroEl))) M 0 (AA rfl) rfl rfl rfl rfl rfl AP rfl (AI rfl) (AY rfl) rfl fun w15 M => yb rfl (A4 (A5 (A9 (A0 (yb rfl (yl rfl rfl (M.cell 0 rfl rfl) (ya rfl (CX rfl rfl rfl) (A4 (A5 (AT (b := (!decide ((((AO m.els f.frm).getD zeroEl).kind.toNat : Int) = (7 : Int)))) rfl (fun h60 => ?_) (fun h60 => ?_))))))))))))
   ·have h60p := (odf (C4 h60))
    refine A0 (yb rfl (yb rfl (yl rfl rfl (M.cell 1 rfl rfl) (cl 64 rfl (AE rfl rfl call14) (LS m a g30 1 pl1 [] F1 f.id _ (by first | omega | exact AI rfl | (simp only [List.length_append, List.length_cons, List.length_nil]; omega)) (M.ok 2 _ rfl)) ?_))))
    rintro _ w16 ⟨rfl, F64, hNw16, hqw16, hfw16⟩
    refine ⟨_, rfl, ?_⟩
    have M := M.updMk 2 rfl hNw16 hqw16 hfw16
    refine A4 (AC (A5 (A0 (ya rfl (CI rfl rfl rfl (by omega)) (yb rfl (A4 (BF [(1, pg g1), (2, pg g2), (7, pg g30), (45, .slice a.F m.fls.length a.fc), (46, .int .i64 ((m.fls.length : Nat) : Int)), (47, .int .i64 (((j + 1) : Nat) : Int))] (m.fls.length - (j + 1)) ⟨j + 1, pl1 ++ [f.id], F64, rfl, (M.pk [2, 3, 4]), ?_, ?_, ?_, rfl⟩ (by first | omega | (simp <;> omega)) ⟨rfl, rfl, rfl, rfl, rfl, rfl, trivial⟩)))))))
    ·omega
    ·first
      | exact QQ hp1 (B3 hf) h60
      | exact VZ hp1 (B3 hf) h60
    ·first | omega | (simp only [List.length_append, List.length_cons, List.length_nil]; omega)
   ·have h60p := (odt (C5 h60))
    refine AN (AC (A5 (A0 (ya rfl (CI rfl rfl rfl (by omega)) (yb rfl (A4 (BF [(1, pg g1), (2, pg g2), (7, pg g30), (45, .slice a.F m.fls.length a.fc), (46, .int .i64 ((m.fls.length : Nat) : Int)), (47, .int .i64 (((j + 1) : Nat) : Int))] (m.fls.length - (j + 1)) ⟨j + 1, pl1, F1, rfl, (M.pk [2, 3, 4]), ?_, ?_, ?_, rfl⟩ (by first | omega | (simp <;> omega)) ⟨rfl, rfl, rfl, rfl, rfl, rfl, trivial⟩)))))))
    ·omega
    ·first
      | exact QQ hp1 (B3 hf) h60
      | exact VZ hp1 (B3 hf) h60
    ·first | omega | (simp only [List.length_append, List.length_cons, List.length_nil]; omega)
  ·have h48p := (odf h48)
   refine C2 (AG (AG ?_))
   have hjE : j = m.fls.length := by omega
   rw [hjE, List.take_length] at hp1
   refine B5 (A5 (A9 (A9 (A0 (yb rfl (yl rfl rfl (M.cell 2 rfl rfl) (ya rfl (CS rfl rfl (sl rfl)) (yb rfl (A4 (A5 (AV (CL (fun e wr mz => ∃ (i : Nat) (pl2 : List (List UInt8)) (F2 : List Nat), e = [(1, pg g1), (2, pg g2), (7, pg g30), (67, .slice a.E m.els.length a.ec), (68, .int .i64 ((m.els.length : Nat) : Int)), (69, .int .i64 ((i : Nat) : Int))] ∧ Mem w AD [As.mk_ m a g30 1 pl2 [] F2, As.blk g2 32 [.slice none 0 0, .slice none 0 0, .int .i64 0, .int .i64 0], As.blk g1 26 (Md.cells m a)] wr ∧ (i ≤ m.els.length) ∧ (pl2 = pl1 ++ ((m.els.take i).filter (FP m)).map (fun y : El => y.id)) ∧ (pl2.length ≤ 402 + i) ∧ mz = m.els.length - i) ⟨0, pl1, F1, rfl, M, Nat.zero_le _, by simp, by omega, rfl⟩ ⟨rfl, rfl, rfl, rfl, rfl, rfl, trivial⟩ ?_))))))))))))
   rintro _ w17 _ ⟨i, pl2, F2, rfl, M, hi, hp2, hb2, rfl⟩
   refine A9 (A0 (ya rfl (CB rfl rfl rfl) (A4 (A5 (A9 (AT (b := (decide (((i : Nat) : Int) < ((m.els.length : Nat) : Int)))) rfl (fun h70 => ?_) (fun h70 => ?_)))))))
   ·have h70p := (odt h70)
    refine AN (A5 (A9 (AV (A9 (A0 ?_)))))
    obtain ⟨x, hx⟩ := DA (l := m.els) (i := i) (by omega)
    obtain ⟨b_x, o_x, hA_x⟩ := C7 (k := 11) (by omega) ((hM.fr0 M.fr).els) hx
    refine ya rfl (BM i hA_x rfl rfl rfl (sl rfl) (by omega)) (ya rfl (AU rfl rfl (DD El.len ((hM.fr0 M.fr).els) hA_x hx) underlying39 rfl AP) (BI M (AA rfl) rfl rfl 39 rfl [str [], str [], .int .u8 0, str [], str [], str [], .int .u8 0, str [], str [], .int .i64 0, .int .i64 0] B7 rfl fun g13 w18 hg13 M => B8 (cs' := (El.cells x)) M 0 (AA rfl) rfl rfl rfl rfl rfl AP rfl (AI rfl) (AY rfl) rfl fun w19 M => A4 (A5 (A9 (A0 (ya rfl (AU (xs := Md.cells m a) rfl rfl (M.rdBlk 3 rfl rfl) underlying26 rfl BC) (ya rfl (AU (xs := El.cells x) rfl rfl (M.rdBlk 0 rfl rfl) underlying39 rfl AP) (cp M 75 rfl (AE rfl rfl call16) (R7 m a x _ ho (hM.fr0 M.fr)) fun w20 M => A4 (A5 (AT (b := (FP m x)) rfl (fun h75 => ?_) (fun h75 => ?_)))))))))))
    ·refine A0 (yb rfl (yb rfl (yl rfl rfl (M.cell 0 rfl rfl) (cl 79 rfl (AE rfl rfl call14) (LS m a g30 1 pl2 [] F2 x.id _ (by first | omega | exact AI rfl | (simp only [List.length_append, List.length_cons, List.length_nil]; omega)) (M.ok 1 _ rfl)) ?_))))
     rintro _ w21 ⟨rfl, F79, hNw21, hqw21, hfw21⟩
     refine ⟨_, rfl, ?_⟩
     have M := M.updMk 1 rfl hNw21 hqw21 hfw21
     refine A4 (AC (A5 (A0 (ya rfl (CI rfl rfl rfl (by omega)) (yb rfl (A4 (BF [(1, pg g1), (2, pg g2), (7, pg g30), (67, .slice a.E m.els.length a.ec), (68, .int .i64 ((m.els.length : Nat) : Int)), (69, .int .i64 (((i + 1) : Nat) : Int))] (m.els.length - (i + 1)) ⟨i + 1, pl2 ++ [x.id], F79, rfl, (M.pk [1, 2, 3]), ?_, ?_, ?_, rfl⟩ (by first | omega | (simp <;> omega)) ⟨rfl, rfl, rfl, rfl, rfl, rfl, trivial⟩)))))))
     ·omega
     ·first
       | exact QQ hp2 (B3 hx) h75
       | exact VZ hp2 (B3 hx) h75
     ·first | omega | (simp only [List.length_append, List.length_cons, List.length_nil]; omega)
    ·refine AN (AC (A5 (A0 (ya rfl (CI rfl rfl rfl (by omega)) (yb rfl (A4 (BF [(1, pg g1), (2, pg g2), (7, pg g30), (67, .slice a.E m.els.length a.ec), (68, .int .i64 ((m.els.length : Nat) : Int)), (69, .int .i64 (((i + 1) : Nat) : Int))] (m.els.length - (i + 1)) ⟨i + 1, pl2, F2, rfl, (M.pk [1, 2, 3]), ?_, ?_, ?_, rfl⟩ (by first | omega | (simp <;> omega)) ⟨rfl, rfl, rfl, rfl, rfl, rfl, trivial⟩)))))))
     ·omega
     ·first
       | exact QQ hp2 (B3 hx) h75
       | exact VZ hp2 (B3 hx) h75
     ·first | omega | (simp only [List.length_append, List.length_cons, List.length_nil]; omega)
   ·have h70p := (odf h70)
    refine C2 (AG (AG ?_))
    have hiE : i = m.els.length := by omega
    rw [hiE, List.take_length] at hp2
    have hpl : pl2 = CU m := by rw [hp2, hp1]; rfl
    subst hpl
    refine B5 (A5 (A9 (A0 (yb rfl (cl 82 rfl (AE rfl rfl call17) (nC g30 _) ?_)))))
    rintro _ w22 ⟨k1, k3, k5, rfl, hKw22, hqw22, hfw22⟩
    refine ⟨_, rfl, ?_⟩
    have M := M.push hfw22 (As.kn g30 k1 k3 k5) hKw22 hqw22
    refine yb rfl (A4 (A5 (A9 (A9 (A0 (yb rfl (yl rfl rfl (M.cell 3 rfl rfl) (ya rfl (CS rfl rfl (sl rfl)) (yb rfl (A4 (A5 (AV (CL (fun e wr mz => ∃ (q : Nat) (ts1 : List Tr1) (F3 : List Nat), e = [(1, pg g1), (2, pg g2), (7, pg g30), (14, .map (some k5)), (84, .slice a.E m.els.length a.ec), (85, .int .i64 ((m.els.length : Nat) : Int)), (86, .int .i64 ((q : Nat) : Int))] ∧ Mem w AD [As.kn g30 k1 k3 k5, As.mk_ m a g30 1 (CU m) ts1 F3, As.blk g2 32 [.slice none 0 0, .slice none 0 0, .int .i64 0, .int .i64 0], As.blk g1 26 (Md.cells m a)] wr ∧ (q ≤ m.els.length) ∧ (ts1 = ((m.els.take q).flatMap (CV m)).map (trP (CU m))) ∧ (ts1.length ≤ q * 160000) ∧ mz = m.els.length - q) ⟨0, [], F2, rfl, M, Nat.zero_le _, rfl, Nat.zero_le _, rfl⟩ ⟨rfl, rfl, rfl, rfl, rfl, rfl, rfl, trivial⟩ ?_)))))))))))))
    rintro _ w23 _ ⟨q, ts1, F3, rfl, M, hq, hE1, hb3, rfl⟩
    refine A9 (A0 (ya rfl (CB rfl rfl rfl) (A4 (A5 (A9 (AT (b := (decide (((q : Nat) : Int) < ((m.els.length : Nat) : Int)))) rfl (fun h87 => ?_) (fun h87 => ?_)))))))
    ·have h87p := (odt h87)
     refine AN (A5 (A9 (AV (A9 (A0 ?_)))))
     obtain ⟨x, hx⟩ := DA (l := m.els) (i := q) (by omega)
     obtain ⟨b_x, o_x, hA_x⟩ := C7 (k := 11) (by omega) ((hM.fr0 M.fr).els) hx
     refine ya rfl (BM q hA_x rfl rfl rfl (sl rfl) (by omega)) (ya rfl (AU rfl rfl (DD El.len ((hM.fr0 M.fr).els) hA_x hx) underlying39 rfl AP) (BI M (AA rfl) rfl rfl 39 rfl [str [], str [], .int .u8 0, str [], str [], str [], .int .u8 0, str [], str [], .int .i64 0, .int .i64 0] B7 rfl fun g16 w24 hg16 M => B8 (cs' := (El.cells x)) M 0 (AA rfl) rfl rfl rfl rfl rfl AP rfl (AI rfl) (AY rfl) rfl fun w25 M => A4 (A5 (DB 14 (fun w' => Mem w AD [As.blk g16 39 (El.cells x), As.kn g30 k1 k3 k5, As.blk g2 32 [.slice none 0 0, .slice none 0 0, .int .i64 0, .int .i64 0], As.blk g1 26 (Md.cells m a)] w') DV ?_))))
     have M := M.drew
     refine oc 0 14 rfl rfl (M.pk [0, 1, 3, 4]) (oc 1 14 rfl rfl (M.pk [0, 1, 3, 4]) (ol 2 14 rfl rfl rfl (M.pk [0, 1, 3, 4]) (fun _ M => (M.cell 0 rfl rfl)) (oa 3 14 rfl rfl (M.pk [0, 1, 3, 4]) (fun _ M => ZV rfl rfl rfl underlying60 underlying5 uL (KnN.mp (M.ok 1 _ rfl))) (oa 4 14 rfl rfl (M.pk [0, 1, 3, 4]) (fun _ M => AU (xs := El.cells x) rfl rfl (M.rdBlk 0 rfl rfl) underlying39 rfl AP) (oa 5 14 rfl rfl (M.pk [0, 1, 3, 4]) (fun _ M => AU (xs := Md.cells m a) rfl rfl (M.rdBlk 3 rfl rfl) underlying26 rfl BC) (oc 6 14 rfl rfl (M.pk [0, 1, 3, 4]) (ol 7 14 rfl rfl rfl (M.pk [0, 1, 3, 4]) (fun _ M => (M.cell 0 rfl rfl)) (oa 9 14 rfl rfl (M.pk [0, 1, 3, 4]) (fun _ M => AU (xs := Md.cells m a) rfl rfl (M.rdBlk 3 rfl rfl) underlying26 rfl BC) (oc 10 14 rfl rfl (M.pk [0, 1, 3, 4]) (ol 11 14 rfl rfl rfl (M.pk [0, 1, 3, 4]) (fun _ M => (M.cell 0 rfl rfl)) (BY 8 (some 98) (by kernel_rfl) rfl (AA rfl) rfl rfl (AE rfl rfl call18) (sO m a x.id _ ho (hM.fr0 M.fr)) ?_)))))))))))
     rintro _ w26 ⟨A98, c98, rfl, how26, hfw26⟩
     refine ⟨_, rfl, fun _ => (M.pk [0, 1, 3, 4]).step hfw26, ?_⟩
     have M := M.pushOwn hfw26 (Nat.le_refl _) how26
     have hL98 := M.ownLen 0 rfl
     refine BY 12 (some 102) (by kernel_rfl) rfl (AA rfl) rfl rfl (AE rfl rfl call19) (S0 m a x.id _ ho (hM.fr0 M.fr)) ?_
     rintro _ w27 ⟨A102, c102, rfl, how27, hfw27⟩
     refine ⟨_, rfl, fun _ => (M.pk [1, 2, 4, 5]).step hfw27, ?_⟩
     have M := M.pushOwn hfw27 (Nat.le_refl _) how27
     have hL102 := M.ownLen 0 rfl
     obtain ⟨fd, fcs, hfv, hfn, hfc⟩ := sH w m a g30 k1 k3 k5 1 (CU m) ho hn hM x (List.mem_of_getElem? hx)
     rw [hfv]
     refine BY 13 (some 103) (by kernel_rfl) rfl (AA rfl) rfl rfl (BK rfl rfl rfl hfn) (hfc ts1 F3 A98 A102 c98 c102 _ M.fr (fun g hg => ((M.lt 4 _ rfl g hg).2).elim id (fun h => h.elim)) (M.ok 3 _ rfl) (fun g hg hF => M.apart 3 4 _ _ rfl rfl (by decide) g hg hF) (by omega) (M.ok 4 _ rfl) (M.rdOwn 1 rfl) (M.rdOwn 0 rfl) (fun b off p e => ⟨M.notMk 1 4 rfl rfl (by decide) OL b off p e, (M.lt 1 _ rfl b (OL b off p e)).1⟩) (fun b off p e => ⟨M.notMk 0 4 rfl rfl (by decide) OL b off p e, (M.lt 0 _ rfl b (OL b off p e)).1⟩)) ?_
     rintro _ w28 ⟨rfl, F103, hNw28, hqw28, hfw28⟩
     have M := M.updMk 4 rfl hNw28 hqw28 hfw28
     refine ⟨_, rfl, fun _ => (M.pk [2, 3, 5, 6]), ?_⟩
     refine BN (by kernel_rfl) (AC (A5 (A0 (ya rfl (CI rfl rfl rfl (by omega)) (yb rfl (A4 (BF [(1, pg g1), (2, pg g2), (7, pg g30), (14, .map (some k5)), (84, .slice a.E m.els.length a.ec), (85, .int .i64 ((m.els.length : Nat) : Int)), (86, .int .i64 (((q + 1) : Nat) : Int))] (m.els.length - (q + 1)) ⟨q + 1, ts1 ++ (CV m x).map (trP (CU m)), F103, rfl, (M.pk [3, 4, 5, 6]), ?_, ?_, ?_, rfl⟩ (by first | omega | (simp <;> omega)) ⟨rfl, rfl, rfl, rfl, rfl, rfl, rfl, trivial⟩)))))))
     ·omega
     ·rw [hE1, B3 hx, List.flatMap_append, List.map_append]; simp
     ·have htl := RA ho x
      rw [List.length_append, List.length_map]
      omega
    ·have h87p := (odf h87)
     refine C2 (AG (AG (B5 (A5 (A9 (A0 ?_))))))
     have M := M.pk [1, 0, 2, 3]
     obtain ⟨x, hL, M⟩ := Mem.openMk M
     replace M : Mem w AD [As.blk g30 55 [str m.id, str m.nm, .slice a.V m.vars.length a.vc, .slice a.E m.els.length a.ec, .slice a.F m.fls.length a.fc, .slice x.A ((CU m).length) x.c, .slice x.B x.rs.length x.d, .int .i64 0, .int .i64 1, .map (some x.gP)], As.mp x.gP x.L, As.own 0 9 1 (.slice x.A (CU m).length x.c) ((CU m).length) (AS D7 (CU m)), As.own 0 45 3 (.slice x.B x.rs.length x.d) x.rs.length (AS TrR.cells x.rs), As.trs x.FT ts1 x.rs, As.kn g30 k1 k3 k5, As.blk g2 32 [.slice none 0 0, .slice none 0 0, .int .i64 0, .int .i64 0], As.blk g1 26 (Md.cells m a)] w23 := M
     refine yb rfl (yb rfl (yb rfl (ya rfl (AU (xs := [.slice x.A ((CU m).length) x.c, .slice x.B x.rs.length x.d, .int .i64 0, .int .i64 1]) rfl rfl (II (M.blk 0 rfl) 5 4 rfl rfl) underlying32 rfl FQ) (B8 (cs' := [.slice x.A ((CU m).length) x.c, .slice x.B x.rs.length x.d, .int .i64 0, .int .i64 1]) M 6 (AA rfl) rfl rfl rfl rfl rfl FQ rfl (AI rfl) (AY rfl) rfl fun w29 M => yb rfl (A4 (A5 (AF (NR rfl rfl (M.rdBlk 6 rfl rfl) underlying32 rfl FQ rfl ?_))))))))
     obtain rfl : q = m.els.length := by omega
     rw [List.take_length] at hE1
     subst hE1
     exact ⟨.inr ⟨h0, s9 (M.pk [0, 1, 2, 3, 4])⟩, M.fr⟩
end Go.Proofs.YtdaihdknnlphkaaGreatDoor
