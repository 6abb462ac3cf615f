/- Lemmas that the last text rests on. Condition: each says its own. -/
import Derived.Test.YtjaocmocdhckaaaGreatDoorZEvB
set_option maxHeartbeats 16000000
set_option maxRecDepth 100000
namespace Go.Proofs.YtjaocmocdhckaaaGreatDoor
open Go.RowKit
theorem Q1 {P : Program} {ops : Array Oper} {Q : Exit → Act → World → Prop} {t : Nat} : ∀ (fuel : Nat) (listed : Array Bool) (a : Act) (w : World), wpAny P .any ops Q fuel listed a w → IN P ops Q t (fun _ => True) fuel listed a w
 | 0, _, _, _, h => h
 | fuel + 1, _, _, _, h => ⟨h.1, fun i hi => wpOp_mono (fun a' w' h' => ⟨fun _ => trivial, Q1 fuel _ a' w' h'⟩) (h.2 i hi)⟩
theorem KS {P : Program} {ops : Array Oper} {Q : Exit → Act → World → Prop} {t1 n f : Nat} {listed : Array Bool} {e : Env} {w : World} (t : Nat) (S : World → Prop) (k : SxO P ops Q t S n f listed e w) : SxO P ops Q t1 (fun _ => True) n f listed e w :=
 ⟨fun a ha => Q1 _ _ _ _ (NF _ _ _ _ (k.run a ha))⟩
section
variable {P : Program} {e : Env} {w : World} {o : Oper} {t t' : Nat} {x y : Operand} {a b : Nat}
theorem U6 (ho : o.op = .binOp .mul t x y t') (hx : ev e x = some (AJ (a : Int))) (hy : ev e y = some (AJ (b : Int))) (h : a * b ≤ 4611686018427387904) : Y P e o w (AJ ((a * b : Nat) : Int)) := by
 have := rG (P := P) (w := w) ho hx hy ⟨by have : (0 : Int) ≤ (a : Int) * (b : Int) := Int.mul_nonneg AM AM; omega, by have : ((a * b : Nat) : Int) = (a : Int) * (b : Int) := Int.natCast_mul a b; omega⟩
 rwa [show (a : Int) * (b : Int) = ((a * b : Nat) : Int) from (Int.natCast_mul a b).symm] at this
theorem QM {s d : Nat} {ds : TypeDesc} (ho : o.op = .convert s d x) (hx : ev e x = some (AJ (a : Int))) (hs : P.underlying s = some ds) (hd : P.underlying d = some (.int .u64)) (h : a ≤ 9223372036854775807) : Y P e o w (.int .u64 (a : Int)) :=
 K4 ho hx hs hd (by rw [IntKind.wrap_u64]; omega)
theorem QN {s d : Nat} {ds : TypeDesc} (ho : o.op = .convert s d x) (hx : ev e x = some (.int .u64 (a : Int))) (hs : P.underlying s = some ds) (hd : P.underlying d = some (.int .i64)) (h : a ≤ 9223372036854775807) : Y P e o w (AJ (a : Int)) :=
 K4 ho hx hs hd (IntWalk.i64_in _ ⟨by omega, by omega⟩)
theorem U5 {k : IntKind} (ho : o.op = .binOp .shr t x y t') (hx : ev e x = some (.int .u64 (a : Int))) (hy : ev e y = some (.int k 1)) : Y P e o w (.int .u64 ((a / 2 : Nat) : Int)) := fun ρ h => by
 have hs : (Op.shift .shr .u64 (a : Int) k 1).run P w = .ok (.int .u64 ((a / 2 : Nat) : Int)) w := by
  have hn : min (1 : Int).toNat IntKind.u64.bits = 1 := by decide
  have he : Int.fdiv (a : Int) (2 ^ 1) = ((a / 2 : Nat) : Int) := by
   rw [show (2 ^ 1 : Int) = ((2 : Nat) : Int) by rfl, Int.ofNat_fdiv]
  unfold Op.shift
  rw [if_neg BU]
  simp only [hn, he]
  rfl
 unfold execOp; simp [ho, h _ _ hx, h _ _ hy, eqGuard_shr, binOp_shr, hs]
end
section
variable {α : Type} {cells : α → List Value} {k : Nat} {l : List α} {rs : List Value}
theorem TR {j : Nat} {x : α} (hx : l[j]? = some x) : AH cells l = AH cells (l.take j) ++ (cells x ++ AH cells (l.drop (j + 1))) := by
 have h1 : l = l.take j ++ x :: l.drop (j + 1) := by
  rw [← B7 hx, List.take_append_drop]
 conv => lhs; rw [h1]
 rw [C1]; simp [AH]
theorem GS (hk : ∀ x, (cells x).length = k) {w : World} {g t : Nat} (hb : Blk w g t (AH cells l ++ rs)) : Rd w (some ⟨g, 0, none⟩) (l.length * k) (AH cells l) :=
 FS hb 0 (l.length * k) (by rw [List.drop_zero, List.take_left' (J3 hk l)]) (J3 hk l)
theorem JT (hk : ∀ x, (cells x).length = k) {j m : Nat} (h : j < l.length) (hm : m = k) : 0 + j * k + m ≤ (AH cells l ++ rs).length := by
 subst hm
 rw [List.length_append, J3 hk]
 have : (j + 1) * m ≤ l.length * m := Nat.mul_le_mul_right _ h
 rw [Nat.succ_mul] at this
 omega
theorem IJ (hk : ∀ x, (cells x).length = k) {j : Nat} {y : α} (h : j < l.length) : put (AH cells l ++ rs) (0 + j * k) (cells y) = AH cells (l.set j y) ++ rs := by
 obtain ⟨x, hx⟩ : ∃ x, l[j]? = some x := ⟨l[j], List.getElem?_eq_getElem h⟩
 have hy : (l.set j y)[j]? = some y := List.getElem?_set_self h
 have hl : (AH cells (l.take j)).length = j * k := by rw [J3 hk, List.length_take, Nat.min_eq_left (Nat.le_of_lt h)]
 rw [TR hx, TR hy, List.take_set_of_le (Nat.le_refl _), List.drop_set_of_lt AM, Nat.zero_add]
 unfold put
 rw [List.append_assoc, List.append_assoc, List.take_left' hl, hk, ← List.drop_drop, List.drop_left' hl, List.append_assoc, List.drop_left' (hk x), List.append_assoc]
theorem DX {i j : Nat} {a b : α} (ha : l[i]? = some a) (hb : l[j]? = some b) : ((l.set i b).set j a).Perm l := by
 obtain ⟨h1, rfl⟩ := List.getElem?_eq_some_iff.1 ha
 obtain ⟨h2, rfl⟩ := List.getElem?_eq_some_iff.1 hb
 exact List.set_set_perm h1 h2
end
end Go.Proofs.YtjaocmocdhckaaaGreatDoor
