/- The machine that runs closed code: parts, places, slices, arithmetic, texts. Over any program. No condition. -/
import Derived.Test.YtklciidffdnglaaDoorKe
import Derived.Lib.Strings
namespace Go.Proofs.YtklciidffdnglaaDoor
open Go.RowKit

section
variable {P : Program} {G : Nat} {o : Oper} {e : Tb Value} {h h' : Hp} {nx nx' : Nat} {v : Value}
theorem partL_run {σ : Sg} {t off : Nat} {r : Option Nat} {cs us : List Value} (hr : rowSz P t = some r) (hv : VRs σ cs us) (hp : partL cs off r = some v) (w : World) : ∃ u, VR σ v u ∧ (part t ⟨us⟩ off).run P w = .ok u w := by
  obtain ⟨h1, h2⟩ := run_isAgg hr w
  cases r with
  | none =>
    obtain ⟨u, hu, hvu⟩ := hv.get hp
    refine ⟨u, hvu, ?_⟩
    unfold part
    simp only [Sem.run_bind, h1, Result.andThen_ok, Option.isSome_none, Bool.false_eq_true, if_false]
    simp [hu]
  | some n =>
    injection hp with hp; subst hp
    obtain ⟨i, hi, hs⟩ := h2 n rfl
    refine ⟨.agg ⟨(us.drop off).take n⟩, .agg ((hv.drop off).take n) .nil, ?_⟩
    unfold part
    simp [h1, sizeOf, typeInfo, hi, hs]
theorem field_good {s f : Nat} {x : Operand} (ho : o.op = .field s x f) (hm : mField P h nx s f (evO G e x) = .ok v h' nx') : Good P G o e h nx v h' nx' := by
  unfold mField at hm
  split at hm
  · rename_i cs h1
    split at hm
    · rename_i off r hp
      split at hm
      · rename_i v' hv
        obtain ⟨rfl, rfl, rfl⟩ := ok_inj hm
        unfold fieldPl at hp
        split at hp
        · rename_i fs hus
          split at hp
          · rename_i fd hfd
            obtain ⟨r', hr, hp⟩ := Option.map_eq_some_iff.1 hp
            injection hp with e1 e2; subst e1; subst e2
            refine good_pure fun σ w ρ oe m => ?_
            obtain ⟨ys, hu, hr'⟩ := (oe x _ h1).agg_inv
            obtain ⟨u, hvu, hrun⟩ := partL_run hr hr' hv w
            exact ⟨u, hvu, by unfold execOp; simp [ho, hu, Instr.field, run_underlying hus, hfd, asAgg, hrun]⟩
          · cases hp
        · cases hp
      · cases hm
    · cases hm
  · cases hm
theorem slEl {t el s : Nat} (ht : sliceElem P t = some (el, s)) : P.underlying t = some (.slice el) ∧ ∃ i, P.info? el = some i ∧ i.size = s := by
  unfold sliceElem at ht
  split at ht
  · rename_i el' hu
    split at ht
    · rename_i i hi
      simp only [Option.some.injEq, Prod.mk.injEq] at ht
      obtain ⟨rfl, rfl⟩ := ht
      exact ⟨hu, i, hi, rfl⟩
    · cases ht
  · cases ht
theorem arEl {t n el s : Nat} (ht : arrElem P t = some (n, el, s)) : P.underlying t = some (.array n el) ∧ ∃ i, P.info? el = some i ∧ i.size = s := by
  unfold arrElem at ht
  split at ht
  · rename_i el' n' hu
    split at ht
    · rename_i i hi
      simp only [Option.some.injEq, Prod.mk.injEq] at ht
      obtain ⟨rfl, rfl, rfl⟩ := ht
      exact ⟨hu, i, hi, rfl⟩
    · cases ht
  · cases ht
theorem indexAddr_good {t : Nat} {x i : Operand} (ho : o.op = .indexAddr t x i) (hm : mIndexAddr P h nx t (evO G e x) (evO G e i) = .ok v h' nx') : Good P G o e h nx v h' nx' := by
  unfold mIndexAddr at hm
  split at hm
  · rename_i id off sp len cap k m h1 h2
    split at hm
    · rename_i el s ht
      obtain ⟨hlt, hm⟩ := bo_inv hm (by simp)
      obtain ⟨rfl, rfl, rfl⟩ := ok_inj hm
      have hlt := blt_lt hlt
      obtain ⟨hus, i', hi', hs⟩ := slEl ht
      refine good_pure fun σ w ρ oe m' => ?_
      obtain ⟨L, c', hL, hu⟩ := (oe x _ h1).slice_inv (by omega)
      have hi := (oe i _ h2).scal_inv rfl
      refine ⟨.pointer (some ⟨L.blk, L.base + off + m * s, none⟩), by rw [Nat.add_assoc]; exact .ptr hL .nil, ?_⟩
      have h0 : (0 : Int) ≤ Int.ofNat m ∧ Int.ofNat m < (len : Int) := ⟨by simp, by simpa using hlt⟩
      unfold execOp
      simp [ho, hu, hi, Instr.indexAt, asIntOf, run_underlying hus, hlt, sizeOf, typeInfo, hi', hs, Addr.add_mid]
    · cases hm
  · rename_i id off k m h1 h2
    split at hm
    · rename_i len el s ht
      obtain ⟨hlt, hm⟩ := bo_inv hm (by simp)
      obtain ⟨rfl, rfl, rfl⟩ := ok_inj hm
      have hlt := blt_lt hlt
      obtain ⟨hus, i', hi', hs⟩ := arEl ht
      refine good_pure fun σ w ρ oe m' => ?_
      obtain ⟨L, hL, hu⟩ := (oe x _ h1).ptr_inv
      have hi := (oe i _ h2).scal_inv rfl
      refine ⟨.pointer (some ⟨L.blk, L.base + off + m * s, none⟩), by rw [Nat.add_assoc]; exact .ptr hL .nil, ?_⟩
      unfold execOp
      simp [ho, hu, hi, Instr.indexAt, asIntOf, run_underlying hus, Instr.sureAddr, hlt, sizeOf, typeInfo, hi', hs, Addr.add_mid]
    · cases hm
  · cases hm
theorem index_good {t : Nat} {x i : Operand} (ho : o.op = .index t x i) (hm : mIndex P h nx t (evO G e x) (evO G e i) = .ok v h' nx') : Good P G o e h nx v h' nx' := by
  unfold mIndex at hm
  split at hm
  · rename_i cs k m h1 h2
    split at hm
    · rename_i len el s ht
      split at hm
      · rename_i r hr
        obtain ⟨hlt, hm⟩ := bo_inv hm (by simp)
        split at hm
        · rename_i v' hv
          obtain ⟨rfl, rfl, rfl⟩ := ok_inj hm
          have hlt := blt_lt hlt
          obtain ⟨hus, i', hi', hs⟩ := arEl ht
          refine good_pure fun σ w ρ oe m' => ?_
          obtain ⟨ys, hu, hr'⟩ := (oe x _ h1).agg_inv
          have hi := (oe i _ h2).scal_inv rfl
          obtain ⟨u, hvu, hrun⟩ := partL_run hr hr' hv w
          refine ⟨u, hvu, ?_⟩
          unfold execOp
          simp [ho, hu, hi, Instr.index, asIntOf, run_underlying hus, hlt, sizeOf, typeInfo, hi', hs, hrun]
        · cases hm
      · cases hm
    · cases hm
  · rename_i s k m h1 h2
    split at hm
    · rename_i hus
      split at hm
      · rename_i b hb
        obtain ⟨rfl, rfl, rfl⟩ := ok_inj hm
        refine good_pure fun σ w ρ oe m' => ?_
        have hu := (oe x _ h1).scal_inv rfl
        have hi := (oe i _ h2).scal_inv rfl
        refine ⟨.int .u8 (.ofNat b.toNat), VR.int, ?_⟩
        have hs : s[m]? = some b := by
          obtain ⟨d⟩ := s
          have hl := (List.getElem?_eq_some_iff.1 hb).1
          have he := (List.getElem?_eq_some_iff.1 hb).2
          rw [getElem?_pos (ByteArray.mk d) m (by show m < d.size; simpa using hl)]
          congr 1
        unfold execOp
        simp [ho, hu, hi, Instr.index, asIntOf, run_underlying hus, hs]
      · cases hm
    · cases hm
  · cases hm
theorem arr_good {t : Nat} {x : Operand} (ho : o.op = .sliceToArrayPointer t x) (hm : mArr P h nx t (evO G e x) = .ok v h' nx') : Good P G o e h nx v h' nx' := by
  unfold mArr at hm
  split at hm
  · rename_i id off sp len cap h1
    split at hm
    · rename_i n el s ht
      obtain ⟨hle, hm⟩ := bo_inv hm (by simp)
      obtain ⟨rfl, rfl, rfl⟩ := ok_inj hm
      simp only [Bool.and_eq_true] at hle
      have hpos := blt_lt hle.2
      have hle := Nat.le_of_ble_eq_true hle.1
      obtain ⟨hus, _⟩ := arEl ht
      refine good_pure fun σ w ρ oe m' => ?_
      obtain ⟨L, c', hL, hu⟩ := (oe x _ h1).slice_inv hpos
      refine ⟨_, .ptr hL .nil, ?_⟩
      unfold execOp
      simp [ho, hu, Instr.arrayAt, run_underlying hus, Nat.not_lt.2 hle]
    · cases hm
  · cases hm
/-- The bounds of a slice. -/
theorem bnd {σ : Sg} {ρ : Operand → Value} (oe : OE σ G e ρ) {lo : Option Operand} {d l : Nat} (hb : bndO d (lo.map (evO G e)) = some l) : (lo = none ∧ l = d) ∨ ∃ x k, lo = some x ∧ ρ x = .int k (.ofNat l) := by
  unfold bndO at hb
  split at hb
  · rename_i hl
    injection hb with hb
    cases lo with
    | none => exact .inl ⟨rfl, hb.symm⟩
    | some x => cases hl
  · rename_i k m hl
    injection hb with hb; subst hb
    cases lo with
    | none => cases hl
    | some x => exact .inr ⟨x, k, rfl, by simp only [Option.map_some, Option.some.injEq] at hl; exact (oe x _ hl).scal_inv rfl⟩
  · cases hb
theorem run_bound (w : World) (k : IntKind) (m y : Nat) (code : BoundsCode) (hle : m ≤ y) : (Instr.sliceBound (.int k (m : Int)) y code).run P w = .ok m w := by
  simp [Instr.sliceBound, asIntOf, hle]
theorem run_bounds {σ : Sg} {ρ : Operand → Value} (oe : OE σ G e ρ) (w : World) (isSlice : Bool) {lo hi mx : Option Operand} {len cap l u m : Nat} (hl : bndO 0 (lo.map (evO G e)) = some l) (hu : bndO len (hi.map (evO G e)) = some u) (hm : bndO cap (mx.map (evO G e)) = some m)
    (h1 : l ≤ u) (h2 : hi.isSome = true → u ≤ m) (h3 : m ≤ cap) (h4 : hi.isSome = true ∨ mx = none) : (Instr.sliceBounds isSlice len cap (lo.map ρ) (hi.map ρ) (mx.map ρ)).run P w = .ok (l, u, m) w := by
  unfold Instr.sliceBounds
  rcases bnd oe hl with ⟨rfl, rfl⟩ | ⟨x, k, rfl, hx⟩ <;> rcases bnd oe hu with ⟨rfl, rfl⟩ | ⟨y, k', rfl, hy⟩ <;> rcases bnd oe hm with ⟨rfl, rfl⟩ | ⟨z, k'', rfl, hz⟩ <;>
    simp_all [run_bound]
theorem map_nil {lo : Option Operand} (hl : lo.map (evO G e) = none) : lo = none := by cases lo <;> simp_all
theorem slice_good {t : Nat} {x : Operand} {lo hi mx : Option Operand} (ho : o.op = .slice t x lo hi mx) (hm : mSlice P h nx t (evO G e x) (lo.map (evO G e)) (hi.map (evO G e)) (mx.map (evO G e)) = .ok v h' nx') : Good P G o e h nx v h' nx' := by
  unfold mSlice at hm
  split at hm
  · rename_i s h1
    split at hm
    · rename_i l u hus hmx hl hu
      obtain ⟨hc, hm⟩ := bo_inv hm (by simp)
      simp only [Bool.and_eq_true] at hc
      have hc1 := Nat.le_of_ble_eq_true hc.1
      have hc2 := Nat.le_of_ble_eq_true hc.2
      obtain ⟨rfl, rfl, rfl⟩ := ok_inj hm
      have hmx := map_nil hmx
      subst hmx
      refine good_pure fun σ w ρ oe m' => ?_
      have hx := (oe x _ h1).scal_inv rfl
      have hsz : s.size = s.data.toList.length := by obtain ⟨d⟩ := s; rfl
      have hb := run_bounds (P := P) oe w false (mx := none) (cap := s.size) (len := s.size) hl (by rw [hsz]; exact hu) rfl hc1 (fun _ => by rw [hsz]; exact hc2) (Nat.le_refl _) (.inr rfl)
      refine ⟨_, VR.str, ?_⟩
      unfold execOp
      simp only [Option.map_none] at hb
      simp [ho, hx, Instr.sliceAt, Instr.slice, run_underlying hus, hb, Lib.extract_eq]
    · cases hm
  · rename_i id off len cap h1
    split at hm
    · rename_i el s l u m ht hl hu hmm
      obtain ⟨hc, hm⟩ := bo_inv hm (by simp)
      simp only [Bool.and_eq_true, Bool.or_eq_true] at hc
      have hc1 := Nat.le_of_ble_eq_true hc.1
      have hc2 := Nat.le_of_ble_eq_true hc.2.1
      have hc3 := Nat.le_of_ble_eq_true hc.2.2.1
      obtain ⟨rfl, rfl, rfl⟩ := ok_inj hm
      obtain ⟨hus, i', hi', hs⟩ := slEl ht
      refine good_pure fun σ w ρ oe m' => ?_
      obtain ⟨L, hL, hx⟩ := (oe x _ h1).sl_inv
      have hb := run_bounds (P := P) oe w true hl hu hmm hc1 (fun _ => hc2) hc3 (by
        rcases hc.2.2.2 with h5 | h5
        · left; cases hi <;> simp_all
        · right; cases mx <;> simp_all)
      refine ⟨.slice (some ⟨L.blk, L.base + bo (Nat.beq m l) off (off + l * s), none⟩) (u - l) (m - l), .sl hL .nil, ?_⟩
      unfold execOp
      by_cases hml : m = l
      · subst hml
        have : Nat.beq m m = true := by simp
        simp [ho, hx, Instr.sliceAt, Instr.slice, run_underlying hus, hb, sizeOf, typeInfo, hi', bo_true]
      · have : Nat.beq m l = false := by cases hbq : Nat.beq m l with | false => rfl | true => exact absurd (Nat.eq_of_beq_eq_true hbq) hml
        rw [this, bo_false]
        simp [ho, hx, Instr.sliceAt, Instr.slice, run_underlying hus, hb, sizeOf, typeInfo, hi', hs, hml, Addr.add_mid, Nat.add_assoc]
    · cases hm
  · rename_i id off z len h1
    split at hm
    · rename_i el s l u ht hl hu hmx
      cases hc : (Nat.ble l u && (Nat.ble u len && Nat.beq s z)) with
      | false =>
        rw [hc, bo_false] at hm
        unfold mSlKnown at hm
        split at hm
        · rename_i el0 m0 k0 c0 hb0
          obtain ⟨hc, hm⟩ := bo_inv hm (by simp)
          simp only [Bool.and_eq_true] at hc
          have hlu := blt_lt hc.1
          have hum := Nat.le_of_ble_eq_true hc.2.1
          have hz0 := blt_lt hc.2.2.1
          have hsz := Nat.eq_of_beq_eq_true hc.2.2.2
          obtain ⟨rfl, rfl, rfl⟩ := ok_inj hm
          have hmx := map_nil hmx
          subst hmx
          obtain ⟨hus, i', hi', hs⟩ := slEl ht
          subst hsz
          refine good_pure fun σ w ρ oe m' => ?_
          obtain ⟨L, c', hL, hle, hroom, _, hx⟩ := (oe x _ h1).slo_inv
          obtain ⟨row, fz, hr1, hr2, hr3, _⟩ := m'.cells hb0 hL
          have huc : u ≤ c' := by
            have : u * s ≤ c' * s := by omega
            exact Nat.le_of_mul_le_mul_right this hz0
          have hb := run_bounds (P := P) oe w true (mx := none) (cap := c') hl hu rfl (by omega) (fun _ => by omega) (Nat.le_refl _) (.inr rfl)
          simp only [Option.map_none] at hb
          refine ⟨.slice (some ⟨L.blk, L.base + (off + l * s), none⟩) (u - l) (c' - l), .slo (c := c' - l) hL (by omega) ?_ .nil, ?_⟩
          · have : c' * s = l * s + (c' - l) * s := by rw [← Nat.add_mul]; congr 1; omega
            omega
          · unfold execOp
            have hml : ¬ c' = l := by omega
            simp [ho, hx, Instr.sliceAt, Instr.slice, run_underlying hus, hb, sizeOf, typeInfo, hi', hs, hml, Addr.add_mid, Nat.add_assoc]
        · cases hm
      | true =>
      rw [hc, bo_true] at hm
      simp only [Bool.and_eq_true] at hc
      have hc1 := Nat.le_of_ble_eq_true hc.1
      have hc2 := Nat.le_of_ble_eq_true hc.2.1
      have hc3 := Nat.eq_of_beq_eq_true hc.2.2
      have hmx := map_nil hmx
      subst hmx
      obtain ⟨hus, i', hi', hs⟩ := slEl ht
      subst hc3
      cases hq : (Nat.beq l 0 || Nat.blt l len) with
      | true =>
        rw [hq, bo_true] at hm
        obtain ⟨rfl, rfl, rfl⟩ := ok_inj hm
        refine good_pure fun σ w ρ oe m' => ?_
        obtain ⟨L, c', hL, hle, hroom, _, hx⟩ := (oe x _ h1).slo_inv
        have hb := run_bounds (P := P) oe w true (mx := none) (cap := c') hl hu rfl hc1 (fun _ => by omega) (Nat.le_refl _) (.inr rfl)
        simp only [Option.map_none] at hb
        have hlc : l = 0 ∨ l < c' := by
          rcases Bool.or_eq_true_iff.1 hq with h5 | h5
          · exact .inl (Nat.eq_of_beq_eq_true h5)
          · have := blt_lt h5; exact .inr (by omega)
        refine ⟨.slice (some ⟨L.blk, L.base + (off + l * s), none⟩) (u - l) (c' - l), .slo (c := c' - l) hL (by omega) ?_ .nil, ?_⟩
        · have : c' * s = l * s + (c' - l) * s := by rw [← Nat.add_mul]; congr 1; omega
          omega
        · unfold execOp
          rcases hlc with rfl | hlc
          · by_cases h0 : c' = 0
            · subst h0
              simp [ho, hx, Instr.sliceAt, Instr.slice, run_underlying hus, hb, sizeOf, typeInfo, hi']
            · simp [ho, hx, Instr.sliceAt, Instr.slice, run_underlying hus, hb, sizeOf, typeInfo, hi', h0, Addr.add_mid]
          · have hml : ¬ c' = l := by omega
            simp [ho, hx, Instr.sliceAt, Instr.slice, run_underlying hus, hb, sizeOf, typeInfo, hi', hs, hml, Addr.add_mid, Nat.add_assoc]
      | false =>
        rw [hq, bo_false] at hm
        obtain ⟨rfl, rfl, rfl⟩ := ok_inj hm
        have hl0 : l ≠ 0 := fun hh => by subst hh; simp at hq
        have hll : len ≤ l := by
          rcases Nat.lt_or_ge l len with h5 | h5
          · have := Nat.ble_eq_true_of_le h5
            rw [show Nat.blt l len = true from this, Bool.or_true] at hq; cases hq
          · exact h5
        refine good_pure fun σ w ρ oe m' => ?_
        obtain ⟨L, c', hL, hle, hroom, _, hx⟩ := (oe x _ h1).slo_inv
        have hb := run_bounds (P := P) oe w true (mx := none) (cap := c') hl hu rfl hc1 (fun _ => by omega) (Nat.le_refl _) (.inr rfl)
        simp only [Option.map_none] at hb
        have hul : u - l = 0 := by omega
        by_cases hml : c' = l
        · refine ⟨.slice (some ⟨L.blk, L.base + off, none⟩) 0 0, .sle hL (.inl rfl) .nil, ?_⟩
          unfold execOp
          subst hml
          simp [ho, hx, Instr.sliceAt, Instr.slice, run_underlying hus, hb, sizeOf, typeInfo, hi', hs, hul]
        · refine ⟨.slice (some ⟨L.blk, L.base + (off + l * s), none⟩) 0 (c' - l), .sle hL (.inr ⟨rfl, ?_⟩) .nil, ?_⟩
          · have : c' * s = l * s + (c' - l) * s := by rw [← Nat.add_mul]; congr 1; omega
            omega
          · unfold execOp
            simp [ho, hx, Instr.sliceAt, Instr.slice, run_underlying hus, hb, sizeOf, typeInfo, hi', hs, hml, Addr.add_mid, Nat.add_assoc, hul]
    · rename_i el s l u mo ht hl hu hmx
      split at hm
      · rename_i m hmm0
        obtain ⟨hc, hm⟩ := bo_inv hm (by simp)
        simp only [Bool.and_eq_true] at hc
        have hc1 := Nat.le_of_ble_eq_true hc.1
        have hc2 := Nat.le_of_ble_eq_true hc.2.1
        have hc3 := Nat.le_of_ble_eq_true hc.2.2.1
        obtain ⟨rfl, rfl, rfl⟩ := ok_inj hm
        obtain ⟨hus, i', hi', hs⟩ := slEl ht
        refine good_pure fun σ w ρ oe m' => ?_
        obtain ⟨L, c', hL, hle, hroom, _, hx⟩ := (oe x _ h1).slo_inv
        have hmm : bndO c' (mx.map (evO G e)) = some m := by
          rw [hmx]
          unfold bndO at hmm0 ⊢
          split at hmm0
          · rename_i hh; cases hh
          · exact hmm0
          · cases hmm0
        have hb := run_bounds (P := P) oe w true hl hu hmm hc1 (fun _ => hc2) (by omega) (.inl (by
          have := hc.2.2.2
          cases hi <;> simp_all))
        refine ⟨.slice (some ⟨L.blk, L.base + bo (Nat.beq m l) off (off + l * s), none⟩) (u - l) (m - l), .sl hL .nil, ?_⟩
        unfold execOp
        by_cases hml : m = l
        · subst hml
          have : Nat.beq m m = true := by simp
          simp [ho, hx, Instr.sliceAt, Instr.slice, run_underlying hus, hb, sizeOf, typeInfo, hi', bo_true]
        · have : Nat.beq m l = false := by cases hbq : Nat.beq m l with | false => rfl | true => exact absurd (Nat.eq_of_beq_eq_true hbq) hml
          rw [this, bo_false]
          simp [ho, hx, Instr.sliceAt, Instr.slice, run_underlying hus, hb, sizeOf, typeInfo, hi', hs, hml, Addr.add_mid, Nat.add_assoc]
      · cases hm
    · cases hm
  · rename_i id off z h1
    split at hm
    · rename_i p ht hl hu hmm
      obtain ⟨el, s⟩ := p
      obtain ⟨hc, hm⟩ := bo_inv hm (by simp)
      obtain ⟨rfl, rfl, rfl⟩ := ok_inj hm
      obtain ⟨hus, i', hi', hs⟩ := slEl ht
      refine good_pure fun σ w ρ oe m' => ?_
      have hv := oe x _ h1
      obtain ⟨L, A, c', hL, hx, _⟩ := hv.slice_any
      have h4 : hi.isSome = true ∨ mx = none := by
        rcases Bool.or_eq_true_iff.1 hc with h5 | h5
        · left; cases hi <;> simp_all
        · right; cases mx <;> simp_all
      cases hmx : mx with
      | none =>
        subst hmx
        have hb := run_bounds (P := P) oe w true (mx := none) (cap := c') hl hu rfl (Nat.le_refl 0) (fun _ => Nat.zero_le _) (Nat.le_refl _) (.inr rfl)
        simp only [Option.map_none] at hb
        refine ⟨.slice (some ⟨L.blk, A, none⟩) 0 c', by rw [← hx]; exact hv, ?_⟩
        unfold execOp
        by_cases h0 : c' = 0
        · subst h0
          simp [ho, hx, Instr.sliceAt, Instr.slice, run_underlying hus, hb, sizeOf, typeInfo, hi']
        · simp [ho, hx, Instr.sliceAt, Instr.slice, run_underlying hus, hb, sizeOf, typeInfo, hi', h0, Addr.add_mid]
      | some mo =>
        have hmm' : bndO c' (mx.map (evO G e)) = some 0 := by
          rw [hmx] at hmm ⊢
          simp only [Option.map_some] at hmm ⊢
          generalize evO G e mo = q at hmm ⊢
          unfold bndO at hmm ⊢
          split at hmm
          · rename_i hh; cases hh
          · exact hmm
          · cases hmm
        have hb := run_bounds (P := P) oe w true hl hu hmm' (Nat.le_refl 0) (fun _ => Nat.le_refl 0) (Nat.zero_le _) h4
        rw [hmx] at hb
        refine ⟨.slice (some ⟨L.blk, A, none⟩) 0 0, .sle hL (.inl rfl) .nil, ?_⟩
        unfold execOp
        simp only [Option.map_some] at hb
        simp [ho, hx, hmx, Instr.sliceAt, Instr.slice, run_underlying hus, hb, sizeOf, typeInfo, hi']
    · cases hm
  · rename_i h1
    split at hm
    · rename_i p ht hl hu hmm
      obtain ⟨el, s⟩ := p
      obtain ⟨hc, hm⟩ := bo_inv hm (by simp)
      obtain ⟨rfl, rfl, rfl⟩ := ok_inj hm
      obtain ⟨hus, i', hi', hs⟩ := slEl ht
      refine good_pure fun σ w ρ oe m' => ?_
      have hx := (oe x _ h1).scal_inv rfl
      have hb := run_bounds (P := P) oe w true hl hu hmm (Nat.le_refl _) (fun _ => Nat.le_refl _) (Nat.le_refl _) (by
        rcases Bool.or_eq_true_iff.1 hc with h5 | h5
        · left; cases hi <;> simp_all
        · right; cases mx <;> simp_all)
      refine ⟨.slice none 0 0, .sc _ rfl .nil, ?_⟩
      unfold execOp
      simp [ho, hx, Instr.sliceAt, Instr.slice, run_underlying hus, hb, sizeOf, typeInfo, hi']
    · cases hm
  · rename_i id off h1
    split at hm
    · rename_i n el s l ht hl hmx
      split at hm
      · rename_i u hu
        obtain ⟨hc, hm⟩ := bo_inv hm (by simp)
        simp only [Bool.and_eq_true] at hc
        have hc1 := Nat.le_of_ble_eq_true hc.1
        have hc2 := Nat.le_of_ble_eq_true hc.2
        obtain ⟨rfl, rfl, rfl⟩ := ok_inj hm
        have hmx := map_nil hmx
        subst hmx
        obtain ⟨hus, i', hi', hs⟩ := arEl ht
        refine good_pure fun σ w ρ oe m' => ?_
        obtain ⟨L, hL, hx⟩ := (oe x _ h1).ptr_inv
        have hb := run_bounds (P := P) oe w false (mx := none) (cap := n) hl hu rfl hc1 (fun _ => hc2) (Nat.le_refl _) (.inr rfl)
        simp only [Option.map_none] at hb
        refine ⟨.slice (some ⟨L.blk, L.base + bo (Nat.beq n l) off (off + l * s), none⟩) (u - l) (n - l), .sl hL .nil, ?_⟩
        unfold execOp
        by_cases hml : n = l
        · subst hml
          have : Nat.beq n n = true := by simp
          simp [ho, hx, Instr.sliceAt, run_underlying hus, Instr.sureAddr, hb, sizeOf, typeInfo, hi', bo_true]
        · have : Nat.beq n l = false := by cases hbq : Nat.beq n l with | false => rfl | true => exact absurd (Nat.eq_of_beq_eq_true hbq) hml
          rw [this, bo_false]
          simp [ho, hx, Instr.sliceAt, run_underlying hus, Instr.sureAddr, hb, sizeOf, typeInfo, hi', hs, hml, Addr.add_mid, Nat.add_assoc]
      · cases hm
    · cases hm
  · cases hm
end
end Go.Proofs.YtklciidffdnglaaDoor
