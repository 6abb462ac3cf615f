/- The machine that runs closed code: a region that draws its order: in whatever order its operations come, they come to the same. Over any program. No condition. -/
import Derived.Test.YtklciidffdnglaaDoorKm
namespace Go.Proofs.YtklciidffdnglaaDoor
open Go.RowKit

/-- A step in a part of the memory is a step in the whole. -/
theorem Tr.frame {G : Nat} {σ σ' : Sg} {D hs h' : Hf} {nx nx' : Nat} {w w' : World} (t : Tr G σ D nx w σ' h' nx' w') (m : MR G σ hs nx w) (hD : ∀ id B, D id = some B → hs id = some B) :
    Tr G σ hs nx w σ' (fun id => if (h' id).isSome = true then h' id else if (D id).isSome = true then none else hs id) nx' w' := by
  have hDs : ∀ id, (D id).isSome = true → (hs id).isSome = true := fun id hd => by
    obtain ⟨B, hB⟩ := Option.isSome_iff_exists.1 hd
    rw [hD id B hB]; rfl
  have rest : ∀ id B, ¬ (h' id).isSome = true → (if (D id).isSome = true then none else hs id) = some B → (D id).isSome = false ∧ hs id = some B := fun id B _ hb => by
    cases hq : (D id).isSome with
    | true => rw [hq, if_pos rfl] at hb; cases hb
    | false => rw [hq, if_neg (by simp)] at hb; exact ⟨rfl, hb⟩
  have apart : ∀ id L L2 B, (D id).isSome = false → hs id = some B → σ id = some L → ∀ id2, (D id2).isSome = true → σ id2 = some L2 → L2.blk ≠ L.blk := fun id L L2 B h1 h2 h3 id2 h4 h5 h6 => by
    have := m.sep id2 id L2 L (hDs id2 h4) (by rw [h2]; rfl) h5 h3 h6
    rw [this, h1] at h4; cases h4
  have keepb : ∀ id L B, (D id).isSome = false → hs id = some B → σ id = some L → BR σ L w B → w'.heap[L.blk]? = w.heap[L.blk]? := fun id L B h1 h2 h3 h4 =>
    t.fr L.blk h4.lt (fun id2 L2 h5 h6 => apart id L L2 B h1 h2 h3 id2 h5 h6)
  have cross : ∀ id id' L L', (h' id).isSome = true → (D id').isSome = false → (hs id').isSome = true → σ' id = some L → σ' id' = some L' → L.blk ≠ L'.blk := fun id id' L L' h1 h2 h3 h4 h5 h6 => by
    obtain ⟨B, hB⟩ := Option.isSome_iff_exists.1 h3
    obtain ⟨L1, h7, h8⟩ := m.blk id' B hB
    have := t.ext id' L1 h7
    rw [h5] at this; injection this with this; subst this
    rcases t.src id L h1 h4 with h9 | ⟨id0, L0, h9, h10, h11⟩
    · have := h8.lt; omega
    · exact apart id' L' L0 B h2 hB h7 id0 h9 h10 (h11.trans h6)
  refine ⟨t.le, t.ext, t.old, ⟨fun id B hb => ?_, fun id id' L L' h1 h2 h3 h4 h5 => ?_, t.mr.free, t.mr.glob, t.mr.gle⟩, t.os, t.tape, t.output, t.size, fun r hr hn => t.fr r hr (fun id L h1 h2 => hn id L (hDs id h1) h2), fun id L hi hs' => ?_, fun id hi hn => ?_, fun r hr hq => ?_⟩
  · by_cases hc : (h' id).isSome = true
    · rw [if_pos hc] at hb; exact t.mr.blk id B hb
    · rw [if_neg hc] at hb
      obtain ⟨h1, h2⟩ := rest id B hc hb
      obtain ⟨L, h3, h4⟩ := m.blk id B h2
      exact ⟨L, t.ext id L h3, h4.keep t.ext (keepb id L B h1 h2 h3 h4)⟩
  · by_cases hc : (h' id).isSome = true <;> by_cases hc' : (h' id').isSome = true
    · exact t.mr.sep id id' L L' hc hc' h3 h4 h5
    · rw [if_neg hc'] at h2
      obtain ⟨B, hB⟩ := Option.isSome_iff_exists.1 h2
      obtain ⟨h6, h7⟩ := rest id' B hc' hB
      exact absurd h5 (cross id id' L L' hc h6 (by rw [h7]; rfl) h3 h4)
    · rw [if_neg hc] at h1
      obtain ⟨B, hB⟩ := Option.isSome_iff_exists.1 h1
      obtain ⟨h6, h7⟩ := rest id B hc hB
      exact absurd h5.symm (cross id' id L' L hc' h6 (by rw [h7]; rfl) h4 h3)
    · rw [if_neg hc] at h1; rw [if_neg hc'] at h2
      obtain ⟨B, hB⟩ := Option.isSome_iff_exists.1 h1
      obtain ⟨h6, h7⟩ := rest id B hc hB
      obtain ⟨B', hB'⟩ := Option.isSome_iff_exists.1 h2
      obtain ⟨h8, h9⟩ := rest id' B' hc' hB'
      obtain ⟨L1, g1, g2⟩ := m.blk id B h7
      obtain ⟨L2, g3, g4⟩ := m.blk id' B' h9
      have e1 := t.ext id L1 g1; rw [h3] at e1; injection e1 with e1; subst e1
      have e2 := t.ext id' L2 g3; rw [h4] at e2; injection e2 with e2; subst e2
      exact m.sep id id' L L' (by rw [h7]; rfl) (by rw [h9]; rfl) g1 g3 h5
  · by_cases hc : (h' id).isSome = true
    · rcases t.src id L hc hs' with h9 | ⟨id0, L0, h9, h10, h11⟩
      · exact .inl h9
      · exact .inr ⟨id0, L0, hDs id0 h9, h10, h11⟩
    · rw [if_neg hc] at hi
      obtain ⟨B, hB⟩ := Option.isSome_iff_exists.1 hi
      obtain ⟨h6, h7⟩ := rest id B hc hB
      obtain ⟨L1, g1, g2⟩ := m.blk id B h7
      have e1 := t.ext id L1 g1; rw [hs'] at e1; injection e1 with e1; subst e1
      exact .inr ⟨id, L, by rw [h7]; rfl, g1, rfl⟩
  · have hd : D id = none := by
      cases hq : D id with
      | none => rfl
      | some B => rw [hD id B hq] at hn; cases hn
    rw [t.dom id hi hd]
    simp [hd, hn]
  · obtain ⟨g1, g2⟩ := t.qt r hr (fun id L B h1 h2 h3 => hq id L B (hD id B h1) h2 h3)
    refine ⟨g1, fun id L B (h1 : (if (h' id).isSome = true then h' id else if (D id).isSome = true then none else hs id) = some B) h2 h3 => ?_⟩
    by_cases hc : (h' id).isSome = true
    · rw [if_pos hc] at h1; exact g2 id L B h1 h2 h3
    · rw [if_neg hc] at h1
      obtain ⟨h6, h7⟩ := rest id B hc h1
      obtain ⟨L1, g3, g4⟩ := m.blk id B h7
      have e1 := t.ext id L1 g3; rw [h2] at e1; injection e1 with e1; subst e1
      exact hq id L B h7 g3 h3
/-- A new block, with a number that was kept for it. -/
theorem Tr.fresh {G : Nat} {σ0 σ : Sg} {h0 hs : Hf} {nx0 nx : Nat} {w0 w w' : World} (t : Tr G σ0 h0 nx0 w0 σ hs nx w) {k : Nat} (hk : σ k = none) (h1 : nx0 ≤ k) (h2 : k < nx) (L : Loc) (B : Bl) (hL : L.blk = w.heap.size)
    (hrest : w'.os = w.os ∧ w'.tape = w.tape ∧ w'.output = w.output) (hsize : w'.heap.size = w.heap.size + 1) (hold : ∀ r, r < w.heap.size → w'.heap[r]? = w.heap[r]?) (hbr : ∀ σ' : Sg, σ.le σ' → σ' k = some L → BR σ' L w' B) :
    Tr G σ0 h0 nx0 w0 (fun i => if i = k then some L else σ i) (fun i => if i = k then some B else hs i) nx w' := by
  have hle : σ.le (fun i => if i = k then some L else σ i) := fun i L' hi => by
    by_cases e : i = k
    · subst e; rw [hk] at hi; cases hi
    · simp only [if_neg e]; exact hi
  have hlt : ∀ i B' L', hs i = some B' → σ i = some L' → L'.blk < w.heap.size := fun i B' L' h1 h2 => by
    obtain ⟨L1, h3, h4⟩ := t.mr.blk i B' h1
    rw [h2] at h3; injection h3 with h3; subst h3
    exact h4.lt
  have hG : G ≤ nx0 ∨ True := .inr trivial
  refine ⟨t.le, t.ext.trans hle, fun i hi => by rw [if_neg (by omega)]; exact t.old i hi, ⟨fun i B' hi => ?_, fun i i' L1 L2 h3 h4 h5 h6 h7 => ?_, fun i hi => ?_, fun g hg => ?_, t.mr.gle⟩, hrest.1.trans t.os, hrest.2.1.trans t.tape, hrest.2.2.trans t.output, by have := t.size; omega, fun r hr hn => ?_, fun i L' hi hs' => ?_, fun i hi hn => ?_, fun r hr hq => ?_⟩
  · by_cases e : i = k
    · rw [if_pos e] at hi; injection hi with hi; subst hi
      exact ⟨L, by rw [if_pos e], hbr _ hle (by rw [if_pos rfl])⟩
    · rw [if_neg e] at hi
      obtain ⟨L1, h3, h4⟩ := t.mr.blk i B' hi
      exact ⟨L1, by rw [if_neg e]; exact h3, h4.keep hle (hold _ h4.lt)⟩
  · by_cases e : i = k <;> by_cases e' : i' = k
    · rw [e, e']
    · rw [if_pos e] at h5; injection h5 with h5; subst h5
      rw [if_neg e'] at h6 h4
      obtain ⟨B2, hB2⟩ := Option.isSome_iff_exists.1 h4
      have := hlt i' B2 L2 hB2 h6
      omega
    · rw [if_pos e'] at h6; injection h6 with h6; subst h6
      rw [if_neg e] at h5 h3
      obtain ⟨B1, hB1⟩ := Option.isSome_iff_exists.1 h3
      have := hlt i B1 L1 hB1 h5
      omega
    · rw [if_neg e] at h5 h3; rw [if_neg e'] at h6 h4
      exact t.mr.sep i i' L1 L2 h3 h4 h5 h6 h7
  · rw [if_neg (by omega)]; exact t.mr.free i hi
  · obtain ⟨x, hx⟩ := t.mr.glob g hg
    by_cases e : g = k
    · subst e; rw [hk] at hx; cases hx
    · exact ⟨x, by rw [if_neg e]; exact hx⟩
  · rw [hold r (by have := t.size; omega)]; exact t.fr r hr hn
  · by_cases e : i = k
    · rw [if_pos e] at hs'; injection hs' with hs'; subst hs'
      exact .inl (by have := t.size; omega)
    · rw [if_neg e] at hi hs'
      exact t.src i L' hi hs'
  · rw [if_neg (by omega)]; exact t.dom i hi hn
  · obtain ⟨g1, g2⟩ := t.qt r hr hq
    have hw := t.size
    refine ⟨(hold r (by omega)).trans g1, fun i L1 B1 (h1 : (if i = k then some B else hs i) = some B1) (h2 : (if i = k then some L else σ i) = some L1) h3 => ?_⟩
    by_cases e : i = k
    · rw [if_pos e] at h2; injection h2 with h2; subst h2; omega
    · rw [if_neg e] at h1 h2; exact g2 i L1 B1 h1 h2 h3

section
variable {P : Program} {G n : Nat} {call : CallF} {ops : Array Oper} {nx0 : Nat}
theorem okn {v v1 : Value} {h h' : Hp} {nx nx' : Nat} (hm : OR.ok v1 h nx = OR.ok v h' nx') : h' = h ∧ nx' = nx := by
  obtain ⟨_, h3, h4⟩ := ok_inj hm
  exact ⟨h3.symm, h4.symm⟩
theorem okb {v v1 : Value} {h h' : Hp} {nx nx' : Nat} {b : Bool} (hm : bo b (OR.ok v1 h nx) OR.bad = OR.ok v h' nx') : h' = h ∧ nx' = nx := by
  obtain ⟨_, hm⟩ := bo_inv hm (by simp)
  exact okn hm
theorem okbb {v v1 v2 : Value} {h h' : Hp} {nx nx' : Nat} {b c : Bool} (hm : bo b (bo c (OR.ok v1 h nx) (OR.ok v2 h nx)) OR.bad = OR.ok v h' nx') : h' = h ∧ nx' = nx := by
  obtain ⟨_, hm⟩ := bo_inv hm (by simp)
  cases c with
  | true => exact okn hm
  | false => exact okn hm
theorem okSl {v v1 v2 : Value} {h h' : Hp} {nx nx' id off z s l u : Nat} {b c : Bool} (hm : bo b (bo c (OR.ok v1 h nx) (OR.ok v2 h nx)) (mSlKnown h nx id off z s l u) = OR.ok v h' nx') : h' = h ∧ nx' = nx := by
  cases b with
  | true => exact okbb (b := true) hm
  | false =>
    rw [bo_false] at hm
    unfold mSlKnown at hm
    split at hm
    · exact okb hm
    · cases hm
theorem okz {v : Value} {h' : Hp} {nx' : Nat} {b : Bool} (hm : bo b OR.bad OR.bad = OR.ok v h' nx') : False := by
  cases b <;> cases hm
theorem okoo {α : Type} {x : Option α} {f : α → Value} {v : Value} {h h' : Hp} {nx nx' : Nat} (hm : oo x OR.bad (fun a => OR.ok (f a) h nx) = OR.ok v h' nx') : h' = h ∧ nx' = nx := by
  obtain ⟨a, _, hm⟩ := oo_inv hm (by simp)
  exact okn hm
/-- An operation that only looks leaves memory. -/
theorem still_ok {o : Oper} {e : Tb Value} {h h' : Hp} {nx nx' : Nat} {v : Value} (hk : dKind P o.op = 0) (hm : mOp P G call e h nx o = .ok v h' nx') : h' = h ∧ nx' = nx := by
  have flatn : mFlat P G e h nx o = .ok v h' nx' → h' = h ∧ nx' = nx := fun hm => by
    obtain ⟨h1, hm⟩ := bo_inv hm (by simp)
    split at hm
    · obtain ⟨h2, hm⟩ := bo_inv hm (by simp)
      obtain ⟨_, h3, h4⟩ := ok_inj hm; exact ⟨h3.symm, h4.symm⟩
    · cases hm
  rw [mOp_eq] at hm
  unfold sOp at hm
  cases ho : o.op <;> rw [ho] at hm hk <;> try (simp only [dKind] at hk; done)
  case move x => exact okoo (x := evO G e x) (f := fun v => v) hm
  case assign x => exact okoo (x := evO G e x) (f := fun v => v) hm
  case pick c x y =>
    have hm : mPick h nx (evO G e c) (evO G e x) (evO G e y) = .ok v h' nx' := hm
    unfold mPick at hm; split at hm
    · obtain ⟨_, h3, h4⟩ := ok_inj hm; exact ⟨h3.symm, h4.symm⟩
    · cases hm
  case build t ps =>
    have hm : mBuild P h nx t (evP G e ps.toList) = .ok v h' nx' := hm
    unfold mBuild at hm
    repeat' split at hm
    all_goals first | exact okn hm | exact okb hm | exact (okz hm).elim | cases hm
  case load t x =>
    have hm : mLoad P h nx t (evO G e x) = .ok v h' nx' := hm
    unfold mLoad at hm
    repeat' split at hm
    all_goals first | exact okn hm | exact okb hm | exact (okz hm).elim | cases hm
  case nilCheck x =>
    have hm : mNil h nx (evO G e x) = .ok v h' nx' := hm
    unfold mNil at hm
    repeat' split at hm
    all_goals first | exact okn hm | exact okb hm | exact (okz hm).elim | cases hm
  case binOp op t x y t' =>
    obtain ⟨a, ha, hm⟩ := oo_inv (show oo (evO G e x) OR.bad (fun a => oo (evO G e y) OR.bad (fun b => binV a b P G e h nx o op t)) = OR.ok v h' nx' from hm) (by simp)
    obtain ⟨b, hb, hm⟩ := oo_inv hm (by simp)
    have any : binAny a b P G e h nx o op t = .ok v h' nx' → h' = h ∧ nx' = nx := fun hm => by
      unfold binAny at hm
      split at hm
      · cases hq : eqNil P t a b with
        | none => rw [hq] at hm; exact flatn hm
        | some r => rw [hq] at hm; obtain ⟨_, h3, h4⟩ := ok_inj hm; exact ⟨h3.symm, h4.symm⟩
      · cases hq : eqNil P t a b with
        | none => rw [hq] at hm; exact flatn hm
        | some r => rw [hq] at hm; obtain ⟨_, h3, h4⟩ := ok_inj hm; exact ⟨h3.symm, h4.symm⟩
      · exact flatn hm
    cases a with
    | int k m =>
      cases b with
      | int k' m' =>
        have hm : bo (Nat.beq (ikn k) (ikn k')) (oo (intOp op k m m') (oo (shOp op k m m') (mFlat P G e h nx o) (fun v => .ok v h nx)) (fun v => .ok v h nx)) (oo (shOp op k m m') (mFlat P G e h nx o) (fun v => .ok v h nx)) = .ok v h' nx' := hm
        have sh : oo (shOp op k m m') (mFlat P G e h nx o) (fun v => .ok v h nx) = .ok v h' nx' → h' = h ∧ nx' = nx := fun hm => by
          cases hi : shOp op k m m' with
          | none => rw [hi] at hm; exact flatn hm
          | some r => rw [hi] at hm; obtain ⟨_, h3, h4⟩ := ok_inj hm; exact ⟨h3.symm, h4.symm⟩
        cases hq : Nat.beq (ikn k) (ikn k') with
        | false => rw [hq] at hm; exact sh hm
        | true =>
          rw [hq, bo_true] at hm
          cases hi : intOp op k m m' with
          | none => rw [hi] at hm; exact sh hm
          | some r => rw [hi] at hm; obtain ⟨_, h3, h4⟩ := ok_inj hm; exact ⟨h3.symm, h4.symm⟩
      | _ => exact flatn hm
    | string s =>
      cases b with
      | string s' =>
        exact okoo (x := strOp op s.data.toList s'.data.toList) (f := fun v => v) hm
      | _ => cases hm
    | _ => exact any hm
  case unOp => exact flatn hm
  case convert s d x =>
    have hm : mConv P G e h nx o s d (evO G e x) = .ok v h' nx' := hm
    unfold mConv at hm
    repeat' split at hm
    all_goals first | exact flatn hm | exact okn hm | exact okb hm | (cases hm; done) | skip
    · rename_i h1 _ h2 h3 _ h4; simp only [dKind] at hk; rw [h2, h3] at hk; cases hk
  case sliceToArrayPointer t x =>
    have hm : mArr P h nx t (evO G e x) = .ok v h' nx' := hm
    unfold mArr at hm
    repeat' split at hm
    all_goals first | exact okn hm | exact okb hm | exact (okz hm).elim | cases hm
  case makeInterface t x =>
    have hm : mIface P h nx t (evO G e x) = .ok v h' nx' := hm
    unfold mIface at hm
    repeat' split at hm
    all_goals first | exact okn hm | exact okb hm | exact (okz hm).elim | cases hm
  case makeFunc f xs ys =>
    have hm : mFunc h nx f (evL G e xs.toList) (evL G e ys.toList) = .ok v h' nx' := hm
    unfold mFunc at hm
    repeat' split at hm
    all_goals first | exact okn hm | exact okb hm | exact (okz hm).elim | cases hm
  case slice t x lo hi mx =>
    have hm : mSlice P h nx t (evO G e x) (lo.map (evO G e)) (hi.map (evO G e)) (mx.map (evO G e)) = .ok v h' nx' := hm
    unfold mSlice at hm
    repeat' split at hm
    all_goals first | exact okn hm | exact okb hm | exact okbb hm | exact okSl hm | exact (okz hm).elim | cases hm
  case fieldAddr s x f =>
    have hm : mFieldAddr P h nx s f (evO G e x) = .ok v h' nx' := hm
    unfold mFieldAddr at hm
    repeat' split at hm
    all_goals first | exact okn hm | exact okb hm | exact (okz hm).elim | cases hm
  case field s x f =>
    have hm : mField P h nx s f (evO G e x) = .ok v h' nx' := hm
    unfold mField at hm
    repeat' split at hm
    all_goals first | exact okn hm | exact okb hm | exact (okz hm).elim | cases hm
  case indexAddr t x i =>
    have hm : mIndexAddr P h nx t (evO G e x) (evO G e i) = .ok v h' nx' := hm
    unfold mIndexAddr at hm
    repeat' split at hm
    all_goals first | exact okn hm | exact okb hm | exact (okz hm).elim | cases hm
  case index t x i =>
    have hm : mIndex P h nx t (evO G e x) (evO G e i) = .ok v h' nx' := hm
    unfold mIndex at hm
    repeat' split at hm
    all_goals first | exact okn hm | exact okb hm | exact (okz hm).elim | cases hm
  case lookup t x i ok =>
    have hm : mLookup P h nx t ok (evO G e x) (evO G e i) = .ok v h' nx' := hm
    unfold mLookup at hm
    repeat' split at hm
    all_goals first | exact okn hm | exact okb hm | exact (okz hm).elim | cases hm
  case entry x =>
    have hm : mEntry h nx (evO G e x) = .ok v h' nx' := hm
    unfold mEntry at hm
    repeat' split at hm
    all_goals first | exact okb hm | exact (okz hm).elim | cases hm
  case extract x i =>
    have hm : mExtract h nx i (evO G e x) = .ok v h' nx' := hm
    unfold mExtract at hm
    repeat' split at hm
    all_goals first | exact okn hm | exact okb hm | exact (okz hm).elim | cases hm
  case call c =>
    obtain ⟨callee, args, ts⟩ := c
    cases callee with
    | value f => cases hk
    | invoke r m => cases hk
    | builtin b =>
      have hm : mBuiltin P G e h nx o b args.toList ts.toList = .ok v h' nx' := hm
      unfold mBuiltin at hm
      split at hm
      · unfold mLen at hm
        repeat' split at hm
        all_goals first | exact okn hm | exact okb hm | exact (okz hm).elim | cases hm
      · cases hk
      · cases hk
      · cases hk
      · exact flatn hm
      · exact flatn hm
      · cases hm
  all_goals first | cases hm | cases hk
end
end Go.Proofs.YtklciidffdnglaaDoor
