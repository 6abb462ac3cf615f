/- Lemmas that the last text rests on. Condition: each says its own. -/
import Derived.Test.YtdaihdknnlphkaaGreatDoorZCn6
set_option maxHeartbeats 16000000
set_option maxRecDepth 100000
namespace Go.Proofs.YtdaihdknnlphkaaGreatDoor
open Go.RowKit
open Tryz
def KH (m : Md) : Bool := ((decide ((100 : Int) < ((m.els.length : Nat) : Int))) || (decide ((200 : Int) < ((m.fls.length : Nat) : Int)))) || (decide ((60 : Int) < ((m.vars.length : Nat) : Int)))
section
variable {P : Program} {e : Env} {w w0 : World} {o : Oper} {S : Nat → Prop} {L : List As} {Q : Exit → Act → World → Prop} {n : Nat} {ops : Array Oper} {rest : List Oper}
theorem RG (M : Mem w0 S L w) {d : Nat} (hw : Wn ops e o) (hd : o.dst = some d) (hn : Nat.blt d n = true) {t el size : Nat} (ho : o.op = .buildSlice t 0 #[]) (hu : P.underlying t = some (.slice el)) (hi : (P.info? el).map (·.size) = some size)
 (k : ∀ g w', Mem w0 S (As.own w0.heap.size el size (.slice (some ⟨g, 0, none⟩) 0 0) 0 [] :: L) w' → SxL P ops Q n rest ((d, .slice (some ⟨g, 0, none⟩) 0 0) :: e) w') : SxL P ops Q n (o :: rest) e w := by
 refine CM (some d) hw hd hn (fun ρ hρ => Z7 t el size ho hu hi) ?_
 rintro _ w1 ⟨g, rfl, h1, h2, _, hf, h3⟩
 refine k _ _ (M.push hf _ (h3 _ M.fr.size) (fun g' hg => ?_))
 obtain rfl : g' = g := by simpa [As.own, Value.ownBlock, eq_comm] using hg
 exact ⟨h1, h2⟩
theorem OM {base size n c : Nat} {el : TypeId} {A : Option Addr} {xs : List Value} (h : w.ownsRow base el size (.slice A n c) n xs) (h0 : 0 < n) : ∃ g, A = some ⟨g, 0, none⟩ := by
 rcases h.2 with ⟨_, h1⟩ | ⟨g, cap, cur, h1, _⟩
 ·omega
 ·injection h1 with h1; exact ⟨g, h1⟩
theorem m7 {cs xs : List Value} {off k : Nat} (h : off + xs.length ≤ k) (hk : k ≤ cs.length) : (put cs off xs).take k = put (cs.take k) off xs := by
 apply List.ext_getElem?
 intro i
 rw [QO _ _ _ _ (by rw [List.length_take]; omega)]
 by_cases hi : i < k
 ·rw [List.getElem?_take_of_lt hi, QO _ _ _ _ (by omega), List.getElem?_take_of_lt hi]
 ·rw [List.getElem?_take_eq_none (by omega), if_neg (by omega), if_neg (by omega), List.getElem?_take_eq_none (by omega)]
theorem Q4 {ρ : Operand → Value} {ty base el size m c g off q : Nat} {x y : Operand} {A : Option Addr} {xs new : List Value} (hA : A = some ⟨g, 0, none⟩) (ho : o.op = .store ty x y) (hx : ρ x = .pointer (some ⟨g, off, none⟩)) (hy : ρ y = .agg new.toArray) (hown : w.ownsRow base el size (.slice A m c) m xs)
 (hsz : (P.info? ty).map (·.size) = some q) (hq : new.length = q) (h1 : ∀ u ∈ new, u.oneCell' = true) (hl : off + q ≤ m * size) : FU P ρ o w fun v w' => v = undef ∧ w'.ownsRow base el size (.slice A m c) m (put xs off new) ∧ Fr (fun k => k ∈ (Value.slice A m c).ownBlock.toList) w w' := by
 subst hA
 subst hq
 have hxl := hown.1
 rcases hown.2 with ⟨hv, h0⟩ | ⟨g', cap, cur, hs, hb, hg, hc, hm, hcz, ht⟩
 ·cases hv
 ·injection hs with hs1 hs2 hs3
  injection hs1 with hs1; injection hs1 with hs1
  subst hs1
  have hB : Blk w g el cur.toList := by show w.heap[g]? = _; rw [hg]
  have hcl : cur.toList.length = cap * size := by simpa using hcz
  have hle : m * size ≤ cap * size := Nat.mul_le_mul_right size hc
  refine (BW ty x y ho g off el cur.toList new hx hy hB hsz (by omega) h1).mono ?_
  rintro v w1 ⟨rfl, hb1, hf⟩
  refine ⟨rfl, ⟨by rw [RU _ _ _ (by omega)]; exact hxl, .inr ⟨g, cap, (put cur.toList off new).toArray, by rw [hs3], hb, hb1, hc, hm, by simp [RU _ _ _ (show off + new.length ≤ cur.toList.length by omega), hcz], ?_⟩⟩, hf.mono fun k _ e => by simp [Value.ownBlock, e]⟩
  rw [← ht]
  exact m7 hl (by omega)
theorem aD (M : Mem w0 S L w) (i : Nat) (hw : Wn ops e o) (hd : o.dst = none) {ty base el size m c g off q : Nat} {x y : Operand} {A : Option Addr} {xs xs' new : List Value} (hA : A = some ⟨g, 0, none⟩) (ho : o.op = .store ty x y) (hx : ev e x = some (.pointer (some ⟨g, off, none⟩))) (hy : ev e y = some (.agg new.toArray)) (hi : L[i]? = some (As.own base el size (.slice A m c) m xs))
 (hsz : (P.info? ty).map (·.size) = some q) (hq : new.length = q) (h1 : ∀ u ∈ new, u.oneCell' = true) (hl : off + q ≤ m * size) (hcs : put xs off new = xs')
 (k : ∀ w', Mem w0 S (L.set i (As.own base el size (.slice A m c) m xs')) w' → SxL P ops Q n rest e w') : SxL P ops Q n (o :: rest) e w := by
 subst hcs
 refine CM none hw hd rfl (fun ρ hρ => Q4 hA ho (hρ _ _ hx) (hρ _ _ hy) (M.own i hi) hsz hq h1 hl) ?_
 rintro _ w1 ⟨rfl, h2, hf⟩
 exact k w1 (M.upd i hi hf _ h2 (fun _ h => .inl h))
end
theorem o2 {α : Type} {cells : α → List Value} {k : Nat} (hk : ∀ x, (cells x).length = k) (l : List α) : (AS cells l).length = l.length * k := by
 induction l with
 | nil => simp [AS]
 | cons a r ih => rw [show AS cells (a :: r) = cells a ++ AS cells r by simp [AS], List.length_append, ih, hk, List.length_cons, Nat.add_mul]; omega
theorem YW {α : Type} {cells : α → List Value} {k : Nat} (hk : ∀ x, (cells x).length = k) {l : List α} {i : Nat} {x : α} (y : α) (hx : l[i]? = some x) : put (AS cells l) (i * k) (cells y) = AS cells (l.set i y) := by
 have hi := (List.getElem?_eq_some_iff.1 hx).1
 have hs : l = l.take i ++ x :: l.drop (i + 1) := by
  conv => lhs; rw [← List.take_append_drop i l, List.drop_eq_getElem_cons hi]
  rw [(List.getElem?_eq_some_iff.1 hx).2]
 have h1 : AS cells l = AS cells (l.take i) ++ (cells x ++ AS cells (l.drop (i + 1))) := by
  conv => lhs; rw [hs]
  rw [E2]; simp [AS]
 have h2 : AS cells (l.set i y) = AS cells (l.take i) ++ (cells y ++ AS cells (l.drop (i + 1))) := by
  rw [List.set_eq_take_append_cons_drop, if_pos hi, E2]; simp [AS]
 have hl : (AS cells (l.take i)).length = i * k := by rw [o2 hk, List.length_take, Nat.min_eq_left (by omega)]
 rw [h2, h1, put, List.take_append_of_le_length (by omega), List.take_of_length_le (by omega), List.drop_append, hk, hl, List.drop_of_length_le (by omega), List.nil_append, show i * k + k - i * k = k by omega, List.drop_append, hk, List.drop_of_length_le (by rw [hk]; omega), Nat.sub_self, List.drop_zero, List.nil_append]
theorem Mem.stack {w0 w w' : World} {S : Nat → Prop} {L L1 : List As} (M : Mem w0 S L w) (M1 : Mem w AD L1 w') : Mem w0 S (L1 ++ L) w' := by
 have hin : ∀ (i : Nat) (b : As), (L1 ++ L)[i]? = some b → (∃ j, L1[j]? = some b ∧ i = j) ∨ ∃ j, L[j]? = some b ∧ i = L1.length + j := fun i b h => by
  by_cases hi : i < L1.length
  ·rw [List.getElem?_append_left hi] at h; exact .inl ⟨i, h, rfl⟩
  ·rw [List.getElem?_append_right (by omega)] at h; exact .inr ⟨_, h, by omega⟩
 have M' := M.step M1.fr
 have nw : ∀ (j : Nat) (b : As), L1[j]? = some b → ∀ g ∈ b.fp, g < w'.heap.size ∧ w.heap.size ≤ g := fun j b h g hg => by
  obtain ⟨h1, h2⟩ := M1.lt j b h g hg
  exact ⟨h1, h2.elim id fun h => h.elim⟩
 refine ⟨M'.fr, fun i b hi => ?_, fun i b hi g hg => ?_, fun i j b c hi hj hne g hg hg' => ?_⟩
 ·rcases hin i b hi with ⟨j, h, _⟩ | ⟨j, h, _⟩
  ·exact M1.ok j b h
  ·exact M'.ok j b h
 ·rcases hin i b hi with ⟨j, h, _⟩ | ⟨j, h, _⟩
  ·obtain ⟨h1, h2⟩ := nw j b h g hg
   exact ⟨h1, .inl (Nat.le_trans M.fr.size h2)⟩
  ·exact M'.lt j b h g hg
 ·rcases hin i b hi with ⟨i', h1, rfl⟩ | ⟨i', h1, rfl⟩ <;> rcases hin j c hj with ⟨j', h2, rfl⟩ | ⟨j', h2, rfl⟩
  ·exact M1.apart _ _ b c h1 h2 hne g hg hg'
  ·have := (nw _ b h1 g hg).2; have := (M.lt _ c h2 g hg').1; omega
  ·have := (nw _ c h2 g hg').2; have := (M.lt _ b h1 g hg).1; omega
  ·exact M'.apart _ _ b c h1 h2 (by omega) g hg hg'
theorem TY : (prog.info? 97).map (fun i => (i.zero, i.size, i.bytes)) = some (some (.agg #[str [], .int .u8 0, .int .i64 0, .bool false, str []]), 5, 56) := by kernel_rfl
theorem P5 : (prog.info? 39).map (fun i => (i.zero, i.size, i.bytes)) = some (some (.agg #[str [], str [], .int .u8 0, str [], str [], str [], .int .u8 0, str [], str [], .int .i64 0, .int .i64 0]), 11, 144) := by kernel_rfl
theorem RE : (prog.info? 22).map (·.size) = some 1 := by kernel_rfl
theorem NI : (prog.info? 23).map (·.size) = some 1 := by kernel_rfl
theorem RC : (prog.info? 24).map (·.size) = some 1 := by kernel_rfl
theorem iZ (m : Md) (a : MdA) (w : World) :
 Calls prog 4 #[.agg (Md.cells m a).toArray] w fun e w' => e = .returned (.bool (KH m)) ∧ Fr0 w w' := by
 refine AJ (vs := [_]) func4 rfl ntmps4 rfl ?_
 have M := CN w
 refine A9 (A0 (B4 M (AA rfl) rfl rfl 26 rfl rfl (Md.cells m a) rfl fun g1 w1 hg1 M => yb rfl (A4 (A5 (A9 (A0 (yb rfl (yl rfl rfl (M.cell 0 rfl rfl) (ya rfl (CS rfl rfl (sl rfl)) (ya rfl (FF rfl rfl rfl) (yb rfl (AX 5 [(1, pg g1), (2, .bool false), (12, .bool ((decide ((100 : Int) < ((m.els.length : Nat) : Int))) || (decide ((200 : Int) < ((m.fls.length : Nat) : Int)))))] (fun w' => Mem w AD [As.blk g1 26 (Md.cells m a)] w') ?_ (fun k7 => ?_)))))))))))))
 ·intro w2 M
  refine yb rfl (AX 5 [(2, .bool false), (18, .bool (((decide ((100 : Int) < ((m.els.length : Nat) : Int))) || (decide ((200 : Int) < ((m.fls.length : Nat) : Int)))) || (decide ((60 : Int) < ((m.vars.length : Nat) : Int)))))] (fun w' => Mem w AD [As.blk g1 26 (Md.cells m a)] w') ?_ (fun k13 => ?_))
  ·intro w3 M
   exact yb rfl (A4 (A5 (AF (AK rfl rfl ⟨rfl, M.fr⟩))))
  refine AM (d := 13) (b := ((decide ((100 : Int) < ((m.els.length : Nat) : Int))) || (decide ((200 : Int) < ((m.fls.length : Nat) : Int))))) rfl (fun h13 => ?_) (fun h13 => ?_)
  ·iterate 4 refine yo rfl ?_
   exact yb rfl (k13 _ _ M ⟨rfl, (by rw [h13]; rfl), trivial⟩)
  ·exact yd rfl (yp rfl) (ym rfl rfl (M.cell 0 rfl rfl) (yd rfl (CS rfl rfl (sl rfl)) (yd rfl (FF rfl rfl rfl) (yb rfl (k13 _ _ M ⟨rfl, (by rw [h13]; rfl), trivial⟩)))))
 refine AM (d := 7) (b := (decide ((100 : Int) < ((m.els.length : Nat) : Int)))) rfl (fun h7 => ?_) (fun h7 => ?_)
 ·iterate 4 refine yo rfl ?_
  exact yb rfl (k7 _ _ M ⟨rfl, rfl, (by rw [h7]; rfl), trivial⟩)
 ·exact yd rfl (yp rfl) (ym rfl rfl (M.cell 0 rfl rfl) (yd rfl (CS rfl rfl (sl rfl)) (yd rfl (FF rfl rfl rfl) (yb rfl (k7 _ _ M ⟨rfl, rfl, (by rw [h7]; rfl), trivial⟩)))))
theorem HL (s : List UInt8) (w : World) (hs : (s.length : Int) < 4611686018427387904) :
 Calls prog 8 #[str s] w fun e w' => e = .returned (str (zz s)) ∧ Fr0 w w' := by
 refine AJ (vs := [_]) func8 rfl ntmps8 rfl ?_
 have M := CN w
 refine A9 (A0 (yb rfl (A4 (A5 (A9 (A9 (A0 (yb rfl (ya rfl (DE rfl rfl rfl) (A4 (A5 (AT (b := (decide (s = []))) rfl (fun h4 => ?_) (fun h4 => ?_)))))))))))))
 ·have h4p := (odt h4)
  exact A9 (A0 (yb rfl (A4 (A5 (AF (AB (AK rfl rfl ⟨by rw [zz, if_pos (odt h4)]; rfl, M.fr⟩)))))))
 ·have h4p := (odf h4)
  exact AN (A5 (A9 (A0 (yb rfl (ya rfl (FE rfl rfl rfl (by first | omega | (simp only [List.length_cons, List.length_nil]; omega) | (simp only [List.length_append, List.length_cons, List.length_nil]; omega))) (yb rfl (A4 (A5 (AF (AK rfl rfl ⟨by rw [zz, if_neg (odf h4)]; rfl, M.fr⟩))))))))))
theorem dE (l1 l2 : List Int) (A B : Option Addr) (n k c d : Nat) (w : World) (h12 : l1 = l2) (hn : n = l1.length) (hk : k = l2.length) (hl : l1.length ≤ 100000) (hA : Rd w A (l1.length * 1) (AS LL l1)) (hB : Rd w B (l2.length * 1) (AS LL l2)) :
 Calls prog 9 #[.slice A n c, .slice B k d] w fun e w' => e = .returned (.bool true) ∧ Fr0 w w' := by
 subst hn
 subst hk
 have h12l : l1.length = l2.length := by rw [h12]
 refine AJ (vs := [_, _]) func9 rfl ntmps9 rfl ?_
 have M := CN w
 refine A9 (A0 (yb rfl (A4 (A5 (A9 (A9 (A0 (yb rfl (ya rfl (CS rfl rfl (sl rfl)) (yb rfl (ya rfl (CS rfl rfl (sl rfl)) (ya rfl (CX rfl rfl rfl) (A4 (A5 (AT (b := (!decide (((l1.length : Nat) : Int) = ((l2.length : Nat) : Int)))) rfl (fun h10 => ?_) (fun h10 => ?_))))))))))))))))
 ·have h10p := (odf (C4 h10))
  exact A9 (A0 (yb rfl (A4 (A5 (AF (AB (AK rfl rfl (absurd h10p (by omega)))))))))
 ·have h10p := (odt (C5 h10))
  refine AN (A5 (A9 (A9 (A0 (yb rfl (A4 (A5 (AV (CL (fun e wr mz => ∃ (i : Nat), e = [(0, .slice A l1.length c), (1, .slice B l2.length d), (5, .int .i64 ((i : Nat) : Int))] ∧ Mem w AD [] wr ∧ (i ≤ l1.length) ∧ mz = l1.length - i) ⟨0, rfl, M, Nat.zero_le _, rfl⟩ ⟨rfl, rfl, rfl, trivial⟩ ?_)))))))))
  rintro _ w1 _ ⟨i, rfl, M, hi, rfl⟩
  refine A9 (A9 (A0 (yb rfl (yb rfl (ya rfl (CS rfl rfl (sl rfl)) (ya rfl (CB rfl rfl rfl) (A4 (A5 (AT (b := (decide (((i : Nat) : Int) < ((l1.length : Nat) : Int)))) rfl (fun h14 => ?_) (fun h14 => ?_))))))))))
  ·have h14p := (odt h14)
   refine AN (A5 (A9 (AV (A9 (JN DV (by kernel_rfl) ?_)))))
   have M := M.drew
   refine sb rfl (sb rfl ?_)
   obtain ⟨x, hx⟩ := DA (l := l1) (i := i) (by omega)
   obtain ⟨b_x, o_x, hA_x⟩ := C7 (k := 1) (by omega) (hA.fr0 M.fr) hx
   refine sa rfl (BM i hA_x rfl rfl rfl (sl rfl) (by omega)) (sd rfl rfl (EB YK (hA.fr0 M.fr) hA_x hx 0 rfl) (sb rfl (sb rfl ?_)))
   obtain ⟨y, hy⟩ := DA (l := l2) (i := i) (by omega)
   obtain ⟨b_y, o_y, hA_y⟩ := C7 (k := 1) (by omega) (hB.fr0 M.fr) hy
   refine sa rfl (BM i hA_y rfl rfl rfl (sl rfl) (by omega)) (sd rfl rfl (EB YK (hB.fr0 M.fr) hA_y hy 0 rfl) (sa rfl (CX rfl rfl rfl) (LQ (A5 (AT (b := (!decide (x = y))) rfl (fun h25 => ?_) (fun h25 => ?_))))))
   ·have h25p := (odf (C4 h25))
    refine A9 (A0 (yb rfl (A4 (A5 (AF (AL (AB (AB (AL (AB (AK rfl rfl ?_)))))))))))
    exfalso
    rw [h12, hy] at hx
    simp only [Option.some.injEq] at hx
    subst hx
    revert h25
    simp
   ·have h25p := (odt (C5 h25))
    refine AN (AC (A5 (A0 (yb rfl (ya rfl (CI rfl rfl rfl (by omega)) (yb rfl (A4 (BF [(0, .slice A l1.length c), (1, .slice B l2.length d), (5, .int .i64 (((i + 1) : Nat) : Int))] (l1.length - (i + 1)) ⟨i + 1, rfl, M, ?_, rfl⟩ (by first | omega | (simp <;> omega)) ⟨rfl, rfl, rfl, trivial⟩))))))))
    ·omega
  ·have h14p := (odf h14)
   exact C2 (AG (AG (B5 (A5 (A9 (A0 (yb rfl (A4 (A5 (AF (AK rfl rfl ⟨rfl, M.fr⟩)))))))))))
theorem kU (m : Md) (a : MdA) (w : World) (ho : MdOk m) (hM : MdIn w m a) :
 Calls prog 7 #[.agg (Md.cells m a).toArray] w fun e w' => ∃ a' : MdA, e = .returned (.agg (Md.cells m a').toArray) ∧ Mem w AD [As.own w.heap.size 97 5 (.slice a'.V m.vars.length a'.vc) m.vars.length (AS Bd.cells m.vars), As.own w.heap.size 39 11 (.slice a'.E m.els.length a'.ec) m.els.length (AS El.cells m.els), As.own w.heap.size 41 4 (.slice a'.F m.fls.length a'.fc) m.fls.length (AS Fl.cells m.fls)] w' := by
 have hne := ho.nels
 have hnf := ho.nfls
 have hnv := ho.nvars
 refine AJ (vs := [_]) func7 rfl ntmps7 rfl ?_
 have M := CN w
 refine A9 (A0 (B4 M (AA rfl) rfl rfl 26 rfl rfl (Md.cells m a) rfl fun g1 w1 hg1 M => BI M (AA rfl) rfl rfl 26 rfl [str [], str [], .slice none 0 0, .slice none 0 0, .slice none 0 0] K4 rfl fun g2 w2 hg2 M => A4 (A5 (A9 (A0 (RG M (AA rfl) rfl rfl rfl underlying22 J1 fun g3 w3 M => yb rfl (yl rfl rfl (M.cell 2 rfl rfl) (J4 (len' := m.vars.length) (xs' := AS Bd.cells m.vars) M 0 (AA rfl) rfl rfl rfl rfl rfl rfl ((hM.fr0 M.fr).vars) underlying22 TY rfl (by decide) (SU Bd.cells_one) (Nat.le_refl _) (Nat.le_refl _) (by first | omega | (simp <;> omega)) (by unfold maxLen; first | omega | (simp only [List.length_append, List.length_cons, List.length_nil]; omega)) (by simp) (by first | exact (E2 _ _ _).symm | simp [AS]) fun A6 c6 w4 M => ?_))))))))
 refine yb rfl (BP (cs' := [str m.id, str m.nm, .slice A6 m.vars.length c6, .slice a.E m.els.length a.ec, .slice a.F m.fls.length a.fc]) M 2 (AA rfl) rfl rfl rfl rfl rfl rfl rfl RE (AZ rfl) rfl fun w5 M => A4 (A5 (A9 (A0 (RG M (AA rfl) rfl rfl rfl underlying23 AP fun g8 w6 M => yb rfl (yl rfl rfl (M.cell 3 rfl rfl) (J4 (len' := m.els.length) (xs' := AS El.cells m.els) M 0 (AA rfl) rfl rfl rfl rfl rfl rfl ((hM.fr0 M.fr).els) underlying23 P5 rfl (by decide) (SU El.cells_one) (Nat.le_refl _) (Nat.le_refl _) (by first | omega | (simp <;> omega)) (by unfold maxLen; first | omega | (simp only [List.length_append, List.length_cons, List.length_nil]; omega)) (by simp) (by first | exact (E2 _ _ _).symm | simp [AS]) fun A11 c11 w7 M => yb rfl (BP (cs' := [str m.id, str m.nm, .slice A6 m.vars.length c6, .slice A11 m.els.length c11, .slice a.F m.fls.length a.fc]) M 3 (AA rfl) rfl rfl rfl rfl rfl rfl rfl NI (AZ rfl) rfl fun w8 M => ?_))))))))
 refine A4 (A5 (A9 (A0 (RG M (AA rfl) rfl rfl rfl underlying24 C8 fun g13 w9 M => yb rfl (yl rfl rfl (M.cell 4 rfl rfl) (J4 (len' := m.fls.length) (xs' := AS Fl.cells m.fls) M 0 (AA rfl) rfl rfl rfl rfl rfl rfl ((hM.fr0 M.fr).fls) underlying24 JK rfl (by decide) (SU Fl.cells_one) (Nat.le_refl _) (Nat.le_refl _) (by first | omega | (simp <;> omega)) (by unfold maxLen; first | omega | (simp only [List.length_append, List.length_cons, List.length_nil]; omega)) (by simp) (by first | exact (E2 _ _ _).symm | simp [AS]) fun A16 c16 w10 M => yb rfl (BP (cs' := [str m.id, str m.nm, .slice A6 m.vars.length c6, .slice A11 m.els.length c11, .slice A16 m.fls.length c16]) M 4 (AA rfl) rfl rfl rfl rfl rfl rfl rfl RC (AZ rfl) rfl fun w11 M => A4 (A5 (A9 ?_)))))))))
 exact A0 (ya rfl (AU (xs := [str m.id, str m.nm, .slice A6 m.vars.length c6, .slice A11 m.els.length c11, .slice A16 m.fls.length c16]) rfl rfl (M.rdBlk 4 rfl rfl) underlying26 rfl BC) (B8 (cs' := [str m.id, str m.nm, .slice A6 m.vars.length c6, .slice A11 m.els.length c11, .slice A16 m.fls.length c16]) M 3 (AA rfl) rfl rfl rfl rfl rfl BC rfl (AI rfl) (AY rfl) rfl fun w12 M => A4 (A5 (AF (E8 rfl rfl (M.rdBlk 3 rfl rfl) underlying26 rfl BC ⟨⟨A6, c6, A11, c11, A16, c16⟩, rfl, M.pk [2, 1, 0]⟩)))))
end Go.Proofs.YtdaihdknnlphkaaGreatDoor
