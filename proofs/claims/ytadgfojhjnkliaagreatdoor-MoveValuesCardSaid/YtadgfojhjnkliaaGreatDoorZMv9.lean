/- Lemmas that the last text rests on. Condition: each says its own. -/
import Derived.Test.YtadgfojhjnkliaaGreatDoorZMv8
set_option maxHeartbeats 16000000
set_option maxRecDepth 100000
namespace Go.Proofs.YtadgfojhjnkliaaGreatDoor
open Go.RowKit
open Tryz
def Wt.clr (x : Wt) : Wt := { x with key := [] }
theorem lW (a : Wt) : a.same a = true := by unfold Wt.same; simp
theorem cA (c : CrA) (k : List UInt8) (b : Int) (vars : List Bd) : (DL c k b vars).2 = 0 ∨ (DL c k b vars).2 = 100 ∨ (DL c k b vars).2 = 90 := by
 unfold DL
 repeat' split
 all_goals simp
theorem cB {c : CrA} {k : List UInt8} {b : Int} {v v' : List Bd} (h : (DL c k b v).2 = 0) (h' : (DL c k b v').2 = 0) : (DL c k b v).1.clr = (DL c k b v').1.clr := by
 unfold DL at h h' ⊢
 by_cases h1 : (decide (((c.atf k).ev.toNat : Int) = (1 : Int))) = true
 ·simp only [if_pos h1]
 ·by_cases h2 : (decide (((c.atf k).ev.toNat : Int) = (2 : Int))) = true
  ·simp only [if_neg h1, if_pos h2] at h h' ⊢
   by_cases h3 : (!((KD v (c.atf k).key).isSome)) = true
   ·rw [if_pos h3] at h; cases h
   ·by_cases h4 : (!((KD v' (c.atf k).key).isSome)) = true
    ·rw [if_pos h4] at h'; cases h'
    ·rw [if_neg h3] at h ⊢
     rw [if_neg h4] at h' ⊢
     by_cases h5 : (!decide ((((KD v (c.atf k).key).getD zeroVl).kind.toNat : Int) = (3 : Int))) = true
     ·rw [if_pos h5] at h; cases h
     ·by_cases h6 : (!decide ((((KD v' (c.atf k).key).getD zeroVl).kind.toNat : Int) = (3 : Int))) = true
      ·rw [if_pos h6] at h'; cases h'
      ·rw [if_neg h5, if_neg h6]; rfl
  ·simp only [if_neg h1, if_neg h2]
theorem NA {c : CrA} {t : Tk} {vars : List Bd} : ∀ {l : List (List UInt8)} {e : Int}, NB c t vars l = some e → e = 100 ∨ e = 90
 | k :: r, e, h => by
  rw [NB] at h
  by_cases h1 : (!decide ((DL c k t.born vars).2 = (0 : Int))) = true
  ·rw [if_pos h1] at h
   injection h with h
   rcases cA c k t.born vars with h2 | h2 | h2
   ·rw [h2] at h1; cases h1
   ·exact .inl (h ▸ h2)
   ·exact .inr (h ▸ h2)
  ·rw [if_neg h1] at h; exact NA h
theorem SI {c : CrA} {t : Tk} {vars : List Bd} : ∀ {l : List (List UInt8)}, NB c t vars l = none → ∀ k ∈ l, (DL c k t.born vars).2 = 0
 | [], _, _, hk => by cases hk
 | k :: r, h, k', hk => by
  rw [NB] at h
  by_cases h1 : (!decide ((DL c k t.born vars).2 = (0 : Int))) = true
  ·rw [if_pos h1] at h; cases h
  ·rw [if_neg h1] at h
   rcases List.mem_cons.1 hk with rfl | hk
   ·simpa using h1
   ·exact SI h k' hk
theorem PU {m : Md} {c : CrA} {t : Tk} {vars : List Bd} : (decide ((BS m c t vars).2 = (1 : Int))) = !(HE m c t) := by
 unfold BS
 by_cases h : (!(HE m c t)) = true
 ·rw [if_pos h, h]; rfl
 ·rw [if_neg h, Bool.eq_false_iff.2 h]
  cases hq : NB c t vars (DI m c t) with
  | none => rfl
  | some e => rcases NA hq with rfl | rfl <;> rfl
theorem SH {m : Md} {c : CrA} {t : Tk} {vars : List Bd} (h : (BS m c t vars).2 = 0) : (BS m c t vars).1 = (DI m c t).map (fun k => (DL c k t.born vars).1) ∧ ∀ k ∈ DI m c t, (DL c k t.born vars).2 = 0 := by
 unfold BS at h ⊢
 by_cases h1 : (!(HE m c t)) = true
 ·rw [if_pos h1] at h; cases h
 ·rw [if_neg h1] at h ⊢
  cases hq : NB c t vars (DI m c t) with
  | none => exact ⟨rfl, SI hq⟩
  | some e => rw [hq] at h; rcases NA hq with rfl | rfl <;> cases h
theorem bZ {m : Md} {c : CrA} {t : Tk} {v v' : List Bd} (h : (BS m c t v).2 = 0) (h' : (BS m c t v').2 = 0) : (BS m c t v).1.length = (BS m c t v').1.length ∧
 ∀ (i : Nat) (x y : Wt), (BS m c t v).1[i]? = some x → (BS m c t v').1[i]? = some y → x.clr = y.clr := by
 obtain ⟨e1, k1⟩ := SH h
 obtain ⟨e2, k2⟩ := SH h'
 rw [e1, e2]
 refine ⟨by rw [List.length_map, List.length_map], fun i x y hx hy => ?_⟩
 rw [List.getElem?_map] at hx hy
 obtain ⟨k, hk, rfl⟩ := Option.map_eq_some_iff.1 hx
 rw [hk] at hy
 simp only [Option.map_some, Option.some.injEq] at hy
 subst hy
 have hm := List.mem_of_getElem? hk
 exact cB (k1 k hm) (k2 k hm)
section
variable {P : Program} {Q : Exit → Act → World → Prop} {n : Nat} {e : Env} {w w0 : World} {S : Nat → Prop} {L : List As} {ops : Array Oper} {o : Oper} {rest : List Oper}
theorem W1 {w : World} {base size n c : Nat} {el : TypeId} {A : Option Addr} {xs : List Value} (h : w.ownsRow base el size (.slice A n c) n xs) (h0 : 0 < n) : ∃ g, A = some ⟨g, 0, none⟩ := by
 rcases h.2 with ⟨_, h1⟩ | ⟨g, cap, cur, h1, _⟩
 ·omega
 ·injection h1 with h1; exact ⟨g, h1⟩
theorem VJ (M : Mem w0 S L w) (i : Nat) (hw : Wn ops e o) (hd : o.dst = none) {ty base el size m c g off : Nat} {x y : Operand} {A : Option Addr} {v : Value} {xs xs' : List Value} (hA : A = some ⟨g, 0, none⟩) (ho : o.op = .store ty x y) (hx : ev e x = some (.pointer (some ⟨g, off, none⟩))) (hy : ev e y = some v) (hi : L[i]? = some (As.own base el size (.slice A m c) m xs))
 (hv : v.cells = #[v]) (h1 : v.oneCell' = true) (hsz : (P.info? ty).map (·.size) = some 1) (hl : off < m * size) (hcs : xs.set off v = xs')
 (k : ∀ w', Mem w0 S (L.set i (As.own base el size (.slice A m c) m xs')) w' → SxL P ops Q n rest e w') : SxL P ops Q n (o :: rest) e w := by
 subst hA
 have hown := M.own i hi
 have hxl := hown.1
 rcases hown.2 with ⟨_, h0⟩ | ⟨g', cap, cur, hs, hb, hg, hc, hm, hcz, ht⟩
 ·subst h0; omega
 ·injection hs with hs1 hs2 hs3
  injection hs1 with hs1; injection hs1 with hs1
  subst hs1
  have hB : Blk w g el cur.toList := by show w.heap[g]? = _; rw [hg]
  have hcl : cur.toList.length = cap * size := by simpa using hcz
  have hle : m * size ≤ cap * size := Nat.mul_le_mul_right size hc
  refine CI none hw hd rfl (fun ρ hρ => DZ ty x y ho g off el cur.toList v (hρ _ _ hx) (hρ _ _ hy) hv hB hsz (by omega) h1) ?_
  rintro _ w1 ⟨rfl, hb1, hf⟩
  subst hcs
  refine k w1 (M.upd i hi (hf.mono fun q _ e => by simp [As.own, Value.ownBlock, e]) (As.own base el size (.slice (some ⟨g, 0, none⟩) m c) m (xs.set off v)) ⟨by rw [List.length_set]; exact hxl, .inr ⟨g, cap, (cur.toList.set off v).toArray, by rw [hs3], hb, hb1, hc, hm, by simp [hcz], ?_⟩⟩ (fun g' hg' => .inl hg'))
  rw [← ht]
  exact List.take_set
end
theorem T7 {l : List Wt} {i : Nat} {x : Wt} (hx : l[i]? = some x) : (AR Wt.cells l).set (i * 5 + 3) (str []) = AR Wt.cells (l.set i x.clr) := by
 induction l generalizing i with
 | nil => simp at hx
 | cons a r ih =>
  cases i with
  | zero =>
   simp only [List.getElem?_cons_zero, Option.some.injEq] at hx; subst hx
   rfl
  | succ i =>
   have h1 : (AR Wt.cells (a :: r)) = a.cells ++ AR Wt.cells r := by simp [AR]
   have h2 : (AR Wt.cells ((a :: r).set (i + 1) x.clr)) = a.cells ++ AR Wt.cells (r.set i x.clr) := by simp [AR]
   rw [h1, h2, List.set_append_right _ _ (by rw [Wt.len]; omega), Wt.len, show (i + 1) * 5 + 3 - 5 = i * 5 + 3 by omega, ih (by simpa using hx)]
def As.crs (m : Md) (p : Option Addr) (er : Int) (c : CrA) (F : List Nat) : As := ⟨F, fun w => er = 0 → ∃ gc, p = some ⟨gc, 0, Option.none⟩ ∧ CourseN w m gc c F, fun h hb he => by
 obtain ⟨gc, h1, h2⟩ := hb he
 exact ⟨gc, h1, h2.keep h⟩⟩
theorem Mem.crs {w0 w : World} {S : Nat → Prop} {L : List As} {m : Md} {gc : Nat} {c : CrA} {F : List Nat} {er : Int} (M : Mem w0 S L w) (i : Nat) (he : er = 0) (hi : L[i]? = some (As.crs m (some ⟨gc, 0, none⟩) er c F)) : CourseN w m gc c F := by
 obtain ⟨g, h1, h2⟩ := (M.ok i _ hi) he
 injection h1 with h1; injection h1 with h1; subst h1; exact h2
theorem nQ (m : Md) (a : MdA) (w : World) (ho : MdOk m) (hM : MdIn w m a) (hY : Lay0 w) :
 Calls prog 6 #[.agg (Md.cells m a).toArray] w fun e w' => ∃ p er c F, e = .returned (.tuple #[.pointer p, .int .i64 er]) ∧ (er = 0 → ∃ gc, p = some ⟨gc, 0, none⟩ ∧ CourseN w' m gc c F) ∧ (¬ er = 0 → p = none) ∧ (∀ g ∈ F, w.heap.size ≤ g ∧ g < w'.heap.size) ∧ Fr0 w w' :=
 (qZ m a w ho hM hY).mono fun e w' ⟨h, hf⟩ => by
  rcases h with ⟨_, gc, c, F, h1, h2, h3⟩ | ⟨_, h1⟩
  ·exact ⟨some ⟨gc, 0, none⟩, 0, c, F, h1, fun _ => ⟨gc, rfl, h2⟩, fun z => absurd rfl z, h3, hf⟩
  ·exact ⟨none, 140, ⟨⟨none, 0, none, 0, none, 0⟩, 0, 0, 0, 0, 0, [], [], [], fun _ => zeroEl, fun _ => false, fun _ => zeroFl, fun _ => false, fun _ => []⟩, [], h1, fun z => absurd z (by decide), fun _ => rfl, fun g hg => absurd hg (by simp), hf⟩
end Go.Proofs.YtadgfojhjnkliaaGreatDoor
