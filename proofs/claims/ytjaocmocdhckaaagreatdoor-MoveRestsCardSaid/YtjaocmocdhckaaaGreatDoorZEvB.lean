/- Lemmas that the last text rests on. Condition: each says its own. -/
import Derived.Test.YtjaocmocdhckaaaGreatDoorZDl
set_option maxHeartbeats 16000000
set_option maxRecDepth 100000
namespace Go.Proofs.YtjaocmocdhckaaaGreatDoor
open Go.RowKit
section
section
variable {P : Program} {Q : Exit → Act → World → Prop} {n : Nat} {e : Env} {w w0 : World} {S : Nat → Prop} {L : List As} {ops : Array Oper} {o : Oper} {rest : List Oper}
theorem gX {w : World} {base size n c : Nat} {el : TypeId} {A : Option Addr} {xs : List Value} (h : w.ownsRow base el size (.slice A n c) n xs) (h0 : 0 < n) : ∃ g, A = some ⟨g, 0, none⟩ := by
 rcases h.2 with ⟨_, h1⟩ | ⟨g, cap, cur, h1, _⟩
 ·omega
 ·injection h1 with h1; exact ⟨g, h1⟩
theorem fG (M : Mem w0 S L w) (i : Nat) (hw : Wn ops e o) (hd : o.dst = none) {ty base el size m c g off : Nat} {x y : Operand} {A : Option Addr} {v : Value} {xs xs' : List Value} (hA : A = some ⟨g, 0, none⟩) (ho : o.op = .store ty x y) (hx : ev e x = some (.pointer (some ⟨g, off, none⟩))) (hy : ev e y = some v) (hi : L[i]? = some (As.own base el size (.slice A m c) m xs))
 (hv : v.cells = #[v]) (h1 : v.oneCell' = true) (hsz : (P.info? ty).map (·.size) = some 1) (hl : off < m * size) (hcs : xs.set off v = xs')
 (k : ∀ w', Mem w0 S (L.set i (As.own base el size (.slice A m c) m xs')) w' → SxL P ops Q n rest e w') : SxL P ops Q n (o :: rest) e w := by
 subst hA
 have hown := M.own i hi
 have hxl := hown.1
 rcases hown.2 with ⟨_, h0⟩ | ⟨g', cap, cur, hs, hb, hg, hc, hm, hcz, ht⟩
 ·subst h0; omega
 ·injection hs with hs1 hs2 hs3
  injection hs1 with hs1; injection hs1 with hs1
  subst hs1
  have hB : Blk w g el cur.toList := by show w.heap[g]? = _; rw [hg]
  have hcl : cur.toList.length = cap * size := by simpa using hcz
  have hle : m * size ≤ cap * size := Nat.mul_le_mul_right size hc
  refine CH none hw hd rfl (fun ρ hρ => E9 ty x y ho g off el cur.toList v (hρ _ _ hx) (hρ _ _ hy) hv hB hsz AM h1) ?_
  rintro _ w1 ⟨rfl, hb1, hf⟩
  subst hcs
  refine k w1 (M.upd i hi (hf.mono fun q _ e => by simp [As.own, Value.ownBlock, e]) (As.own base el size (.slice (some ⟨g, 0, none⟩) m c) m (xs.set off v)) ⟨by rw [List.length_set]; exact hxl, .inr ⟨g, cap, (cur.toList.set off v).toArray, by rw [hs3], hb, hb1, hc, hm, by simp [hcz], ?_⟩⟩ (fun g' hg' => .inl hg'))
  rw [← ht]
  exact List.take_set
end
def As.crs (m : Md) (p : Option Addr) (er : Int) (c : CrA) (F : List Nat) : As := ⟨F, fun w => er = 0 → ∃ gc, p = some ⟨gc, 0, Option.none⟩ ∧ CourseN w m gc c F, fun h hb he => by
 obtain ⟨gc, h1, h2⟩ := hb he
 exact ⟨gc, h1, h2.keep h⟩⟩
theorem Mem.crs {w0 w : World} {S : Nat → Prop} {L : List As} {m : Md} {gc : Nat} {c : CrA} {F : List Nat} {er : Int} (M : Mem w0 S L w) (i : Nat) (he : er = 0) (hi : L[i]? = some (As.crs m (some ⟨gc, 0, none⟩) er c F)) : CourseN w m gc c F := by
 obtain ⟨g, h1, h2⟩ := (M.ok i _ hi) he
 injection h1 with h1; injection h1 with h1; subst h1; exact h2
end
section
section
variable {P : Program} {e : Env} {w : World} {o : Oper} {t t' : Nat} {a b : Int} {x y : Operand}
theorem oX (ho : o.op = .binOp .sub t x y t') (hx : ev e x = some (AJ a)) (hy : ev e y = some (AJ b)) : Y P e o w (AJ ((IntKind.i64).wrap (a - b))) := fun ρ h => by
 unfold execOp; simp [ho, h _ _ hx, h _ _ hy, eqGuard_at_int, binOp_sub, Op.intArith]
theorem pB (ho : o.op = .binOp .mul t x y t') (hx : ev e x = some (AJ a)) (hy : ev e y = some (AJ b)) : Y P e o w (AJ ((IntKind.i64).wrap (a * b))) := fun ρ h => by
 unfold execOp; simp [ho, h _ _ hx, h _ _ hy, eqGuard_at_int, binOp_mul, Op.intArith]
theorem p8 (ho : o.op = .binOp .quo t x y t') (hx : ev e x = some (AJ a)) (hy : ev e y = some (AJ b)) (hb : ¬ b = 0) : Y P e o w (AJ ((IntKind.i64).wrap (a.tdiv b))) := fun ρ h => by
 unfold execOp; simp [ho, h _ _ hx, h _ _ hy, eqGuard_at_int, binOp_quo, Op.intDiv, hb]
theorem oZ (ho : o.op = .binOp .rem t x y t') (hx : ev e x = some (AJ a)) (hy : ev e y = some (AJ b)) (hb : ¬ b = 0) : Y P e o w (AJ (a.tmod b)) := fun ρ h => by
 unfold execOp; simp [ho, h _ _ hx, h _ _ hy, eqGuard_at_int, binOp_rem, Op.intDiv, hb]
theorem pA {k : IntKind} (ho : o.op = .unOp .neg t x) (hx : ev e x = some (.int k a)) : Y P e o w (.int k (k.wrap (-a))) := fun ρ h => by
 unfold execOp; simp [ho, h _ _ hx, Op.unary, Op.intArith]
end
theorem eS (n : Int) : 0 ≤ (IntKind.u64).wrap n ∧ (IntKind.u64).wrap n < 18446744073709551616 := by
 unfold IntKind.wrap
 constructor
 ·exact Int.emod_nonneg _ BU
 ·exact Int.emod_lt_of_pos _ BU
theorem O8 {α : Type} {p : α → Prop} {a b : α} (ha : p a) (hb : p b) : ∀ v ∈ [a, b], p v := fun v hv => by
 rcases List.mem_cons.1 hv with rfl | hv
 ·exact ha
 ·obtain rfl : v = b := by simpa using hv
  exact hb
end
end Go.Proofs.YtjaocmocdhckaaaGreatDoor
