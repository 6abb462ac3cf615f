/- A pager reads a meta; a disk's pages are found. No condition. -/
import Derived.Test.YthdlljlcffokbaaDoorZPgr11
import Derived.Test.YthdlljlcffokbaaDoorZStr2
namespace Go.Proofs.YthdlljlcffokbaaDoor
open Go.RowKit

section
variable {P : Program} {e : Env} {w : World} {o : Oper}
/-- s[lo:], its row known. -/
theorem y_sliceFromN {t len cap sz el g off : Nat} (lo : Nat) {m : Int} {k : IntKind} {x i : Operand} (ho : o.op = .slice t x (some i) none none) (hx : ev e x = some (.slice (some ⟨g, off, none⟩) len cap)) (hi : ev e i = some (.int k m)) (ht : sliceElem P t = some (el, sz)) (h0 : m = lo) (h1 : lo ≤ len) (h2 : lo < cap) :
    Y P e o w (.slice (some ⟨g, off + lo * sz, none⟩) (len - lo) (cap - lo)) := by
  subst h0
  have := y_sliceFrom (P := P) (w := w) ho hx hi ht (by omega)
  rw [if_neg (by rw [Int.toNat_natCast]; omega)] at this
  rw [Int.toNat_natCast, Option.map_some, Addr.add_mid] at this
  exact this
theorem y_sneq_t {t t' : Nat} {a b : List UInt8} {x y : Operand} (ho : o.op = .binOp .neq t x y t') (hx : ev e x = some (str a)) (hy : ev e y = some (str b)) (h : a ≠ b) : Y P e o w (.bool true) := by
  have := y_sneq (P := P) (w := w) ho hx hy
  rw [decide_eq_false h] at this; exact this
theorem y_sneq_f {t t' : Nat} {a b : List UInt8} {x y : Operand} (ho : o.op = .binOp .neq t x y t') (hx : ev e x = some (str a)) (hy : ev e y = some (str b)) (h : a = b) : Y P e o w (.bool false) := by
  have := y_sneq (P := P) (w := w) ho hx hy
  rw [decide_eq_true h] at this; exact this
theorem yc_bound {f : FuncId} {x : Operand} {us : List Value} {xs : List Operand} {vs : List Value} {ts : Array TypeId} (ho : o.op = .call { callee := .value x, args := xs.toArray, argTypes := ts }) (hf : ev e x = some (.func (.func f) us.toArray #[])) (hx : evs e xs = some vs) (hc : ∀ (ar : Array Value) (w : World), (callFunc f ar).run P w = .ok (.enter f ar) w) : YC P e o w f (us ++ vs).toArray := fun ρ h => by
  have := h.all hx
  unfold execOp
  simp [ho, resolve, h _ _ hf, Deferred.ofValue, invoke, hc, this]
end
theorem bvs_take (l : List UInt8) (n : Nat) : bvs (l.take n) = (bvs l).take n := by unfold bvs; rw [List.map_take]
theorem bvs_drop (l : List UInt8) (n : Nat) : bvs (l.drop n) = (bvs l).drop n := by unfold bvs; rw [List.map_drop]
theorem rd_part {w : World} {g off n : Nat} {xs : List Value} (h : Rd w (some ⟨g, off, none⟩) n xs) (lo k : Nat) (hk : lo + k ≤ n) : Rd w (some ⟨g, off + lo * 1, none⟩) k ((xs.drop lo).take k) := by
  refine ⟨by rw [List.length_take, List.length_drop, h.1]; omega, fun h0 => ?_⟩
  obtain ⟨b, o', e, hc⟩ := h.2 (by omega)
  injection e with e; injection e with e1 e2 _; subst e1; subst e2
  refine ⟨g, off + lo * 1, rfl, fun j u hu => ?_⟩
  rw [List.getElem?_take] at hu
  split at hu
  · rw [List.getElem?_drop] at hu
    rw [Nat.mul_one, Nat.add_assoc]; exact hc _ u hu
  · cases hu
def part8 (l : List UInt8) (lo : Nat) : List UInt8 := (l.drop lo).take 8
/-- What a meta says. -/
def metaOf (pages : Nat) (r : Int × List UInt8) : Int × Int :=
  if r.1 ≠ 0 ∨ r.2.length ≠ 32 ∨ r.2.take 8 ≠ magicB then (-1, 0)
  else if 4611686018427387904 < val8 (part8 r.2 8) ∨ val8 (part8 r.2 8) ≠ val8 (part8 r.2 24) ∨ (val8 (part8 r.2 16) ≠ 0 ∧ (val8 (part8 r.2 16) < 2 ∨ pages ≤ val8 (part8 r.2 16))) then (-1, 0)
  else ((val8 (part8 r.2 8) : Int), (val8 (part8 r.2 16) : Int))
section
variable {w : World} {Q : PL} {p : PS} {s : DS}
set_option maxHeartbeats 16000000 in
theorem meta_ok (h : PgAt w Q p s) (hd : s.dead = false) (n : Nat) (hn : n * 4 + 4 ≤ s.lasts.length) (hpg : p.pages ≤ 100000) :
    Calls Tryd.prog 43 #[.pointer (some ⟨Q.gp, 0, none⟩), .int .i64 (n : Int)] w fun e w' => e = .returned (.tuple #[.int .i64 (metaOf p.pages (decA n (s.page n))).1, .int .i64 (metaOf p.pages (decA n (s.page n))).2]) ∧ Fr0 w w' := by
  have hread := pread_ok h hd n hn
  have hr0 : (decA n (s.page n)).1 = 0 ∨ decA n (s.page n) = (30, []) := by
    by_cases hq : DecOk n (s.page n)
    · rw [decA_ok hq]; exact .inl rfl
    · rw [decA_no hq]; exact .inr rfl
  generalize hr : decA n (s.page n) = r at hread hr0 ⊢
  clear hr
  refine sx_enter (vs := [_, _]) Tryd.func43 rfl Tryd.ntmps43 rfl ?_
  rcases hr0 with h0 | rfl
  case inr =>
    refine sx_seq ?_
    refine sx_region ?_
    iterate 2 refine sxl_y (wn_none rfl) rfl rfl (yp rfl) ?_
    refine sxl_nil ?_
    refine qx_seq ?_
    refine sx_seq ?_
    refine sx_region ?_
    iterate 2 refine sxl_y (wn_none rfl) rfl rfl (yp rfl) ?_
    refine sxl_call (some 13) (by first | exact wn_none rfl | exact wn_on rfl rfl rfl) rfl rfl (yc_call rfl rfl Tryd.call55) (hread) ?_
    rintro _ w1 ⟨v, rfl, ho, hf⟩
    refine ⟨_, rfl, ?_⟩
    iterate 5 refine sxl_y (wn_none rfl) rfl rfl (yp rfl) ?_
    refine sxl_nil ?_
    refine qx_seq ?_
    refine sx_seq ?_
    refine sx_seq ?_
    refine sx_region ?_
    refine sxl_y (wn_none rfl) rfl rfl (yp rfl) ?_
    refine sxl_y (wn_none rfl) rfl rfl (y_neq_t rfl rfl rfl (by omega)) ?_
    refine sxl_y (wn_none rfl) rfl rfl (yp rfl) ?_
    refine sxl_off rfl rfl rfl rfl rfl rfl ?_
    refine sxl_off rfl rfl rfl rfl rfl rfl ?_
    refine sxl_off rfl rfl rfl rfl rfl rfl ?_
    iterate 2 refine sxl_y (wn_none rfl) rfl rfl (yp rfl) ?_
    refine sxl_off rfl rfl rfl rfl rfl rfl ?_
    refine sxl_off rfl rfl rfl rfl rfl rfl ?_
    refine sxl_off rfl rfl rfl rfl rfl rfl ?_
    refine sxl_off rfl rfl rfl rfl rfl rfl ?_
    refine sxl_y (wn_none rfl) rfl rfl (yp rfl) ?_
    refine sxl_nil ?_
    refine qx_seq ?_
    refine sx_true rfl ?_
    refine sx_seq ?_
    refine sx_region ?_
    iterate 2 refine sxl_y (wn_none rfl) rfl rfl (yp rfl) ?_
    refine sxl_nil ?_
    refine qx_seq ?_
    refine sx_ret ?_
    refine qx_then_ret ?_
    refine qx_ret2 rfl rfl rfl ?_
    exact ⟨rfl, hf⟩
  obtain ⟨r1, l⟩ := r
  have h0 : r1 = 0 := h0
  subst h0
  unfold metaOf
  by_cases hl : l.length = 32
  case neg =>
    rw [if_pos (.inr (.inl hl))]
    refine sx_seq ?_
    refine sx_region ?_
    iterate 2 refine sxl_y (wn_none rfl) rfl rfl (yp rfl) ?_
    refine sxl_nil ?_
    refine qx_seq ?_
    refine sx_seq ?_
    refine sx_region ?_
    iterate 2 refine sxl_y (wn_none rfl) rfl rfl (yp rfl) ?_
    refine sxl_call (some 13) (by first | exact wn_none rfl | exact wn_on rfl rfl rfl) rfl rfl (yc_call rfl rfl Tryd.call55) (hread) ?_
    rintro _ w1 ⟨v, rfl, ho, hf⟩
    refine ⟨_, rfl, ?_⟩
    have ho : w1.ownsRow w.heap.size 5 1 v l.length (bvs l) := ho
    obtain ⟨A, c, rfl, _, _, _, _⟩ := own_form ho
    have hl : ¬ l.length = 32 := hl
    iterate 5 refine sxl_y (wn_none rfl) rfl rfl (yp rfl) ?_
    refine sxl_nil ?_
    refine qx_seq ?_
    refine sx_seq ?_
    refine sx_seq ?_
    refine sx_region ?_
    refine sxl_y (wn_none rfl) rfl rfl (yp rfl) ?_
    refine sxl_y (wn_none rfl) rfl rfl (y_neq_f rfl rfl rfl (by omega)) ?_
    refine sxl_y (wn_none rfl) rfl rfl (yp rfl) ?_
    refine sxl_y (wn_on rfl rfl rfl) rfl rfl (yp rfl) ?_
    refine sxl_y (wn_on rfl rfl rfl) rfl rfl (y_len rfl rfl (sl rfl)) ?_
    refine sxl_y (wn_on rfl rfl rfl) rfl rfl (y_neq_t rfl rfl rfl (by omega)) ?_
    iterate 2 refine sxl_y (wn_none rfl) rfl rfl (yp rfl) ?_
    refine sxl_off rfl rfl rfl rfl rfl rfl ?_
    refine sxl_off rfl rfl rfl rfl rfl rfl ?_
    refine sxl_off rfl rfl rfl rfl rfl rfl ?_
    refine sxl_off rfl rfl rfl rfl rfl rfl ?_
    refine sxl_y (wn_none rfl) rfl rfl (yp rfl) ?_
    refine sxl_nil ?_
    refine qx_seq ?_
    refine sx_true rfl ?_
    refine sx_seq ?_
    refine sx_region ?_
    iterate 2 refine sxl_y (wn_none rfl) rfl rfl (yp rfl) ?_
    refine sxl_nil ?_
    refine qx_seq ?_
    refine sx_ret ?_
    refine qx_then_ret ?_
    refine qx_ret2 rfl rfl rfl ?_
    exact ⟨rfl, hf⟩
  have hl : l.length = 32 := hl
  by_cases hm : l.take 8 = magicB
  case neg =>
    rw [if_pos (.inr (.inr hm))]
    refine sx_seq ?_
    refine sx_region ?_
    iterate 2 refine sxl_y (wn_none rfl) rfl rfl (yp rfl) ?_
    refine sxl_nil ?_
    refine qx_seq ?_
    refine sx_seq ?_
    refine sx_region ?_
    iterate 2 refine sxl_y (wn_none rfl) rfl rfl (yp rfl) ?_
    refine sxl_call (some 13) (by first | exact wn_none rfl | exact wn_on rfl rfl rfl) rfl rfl (yc_call rfl rfl Tryd.call55) (hread) ?_
    rintro _ w1 ⟨v, rfl, ho, hf⟩
    refine ⟨_, rfl, ?_⟩
    have ho : w1.ownsRow w.heap.size 5 1 v l.length (bvs l) := ho
    rw [hl] at ho
    obtain ⟨A, c, rfl, hcp, _, hrd, _⟩ := own_form ho
    have h8 := hrd.takeN (k := 8) (by decide)
    rw [← bvs_take] at h8
    iterate 5 refine sxl_y (wn_none rfl) rfl rfl (yp rfl) ?_
    refine sxl_nil ?_
    refine qx_seq ?_
    refine sx_seq ?_
    refine sx_seq ?_
    refine sx_region ?_
    refine sxl_y (wn_none rfl) rfl rfl (yp rfl) ?_
    refine sxl_y (wn_none rfl) rfl rfl (y_neq_f rfl rfl rfl (by omega)) ?_
    refine sxl_y (wn_none rfl) rfl rfl (yp rfl) ?_
    refine sxl_y (wn_on rfl rfl rfl) rfl rfl (yp rfl) ?_
    refine sxl_y (wn_on rfl rfl rfl) rfl rfl (y_len rfl rfl (sl rfl)) ?_
    refine sxl_y (wn_on rfl rfl rfl) rfl rfl (y_neq_f rfl rfl rfl (by omega)) ?_
    iterate 2 refine sxl_y (wn_none rfl) rfl rfl (yp rfl) ?_
    refine sxl_y (wn_on rfl rfl rfl) rfl rfl (yp rfl) ?_
    refine sxl_y (wn_on rfl rfl rfl) rfl rfl (y_sliceTo rfl rfl rfl (sl rfl) (by omega)) ?_
    refine sxl_y (wn_on rfl rfl rfl) rfl rfl (y_bstr rfl rfl Tryd.underlying39 Tryd.underlying5 Tryd.underlying9 h8) ?_
    refine sxl_y (wn_on rfl rfl rfl) rfl rfl (y_sneq_t (b := magicB) rfl rfl rfl hm) ?_
    refine sxl_y (wn_none rfl) rfl rfl (yp rfl) ?_
    refine sxl_nil ?_
    refine qx_seq ?_
    refine sx_true rfl ?_
    refine sx_seq ?_
    refine sx_region ?_
    iterate 2 refine sxl_y (wn_none rfl) rfl rfl (yp rfl) ?_
    refine sxl_nil ?_
    refine qx_seq ?_
    refine sx_ret ?_
    refine qx_then_ret ?_
    refine qx_ret2 rfl rfl rfl ?_
    exact ⟨rfl, hf⟩
  rw [if_neg (fun e => by
    rcases e with e | e | e
    · exact e rfl
    · exact e hl
    · exact e hm)]
  have b8 : ∀ lo, val8 (part8 l lo) < 18446744073709551616 := fun lo => by
    have h1 := val8_lt (part8 l lo)
    have h2 : (part8 l lo).length ≤ 8 := by unfold part8; rw [List.length_take]; omega
    have h3 : 256 ^ (part8 l lo).length ≤ 256 ^ 8 := Nat.pow_le_pow_right (by decide) h2
    have h4 : (256 : Nat) ^ 8 = 18446744073709551616 := by decide
    omega
  have c1 := fun w1 (hf : Fr0 w w1) => (h.fr0 hf).c1
  have hpw : IntKind.u64.wrap (p.pages : Int) = (p.pages : Int) := by rw [IntKind.wrap_u64]; omega
  refine sx_seq ?_
  refine sx_region ?_
  iterate 2 refine sxl_y (wn_none rfl) rfl rfl (yp rfl) ?_
  refine sxl_nil ?_
  refine qx_seq ?_
  refine sx_seq ?_
  refine sx_region ?_
  iterate 2 refine sxl_y (wn_none rfl) rfl rfl (yp rfl) ?_
  refine sxl_call (some 13) (by first | exact wn_none rfl | exact wn_on rfl rfl rfl) rfl rfl (yc_call rfl rfl Tryd.call55) (hread) ?_
  rintro _ w1 ⟨v, rfl, ho, hf⟩
  refine ⟨_, rfl, ?_⟩
  have c1 := c1 w1 hf
  have ho : w1.ownsRow w.heap.size 5 1 v l.length (bvs l) := ho
  rw [hl] at ho
  obtain ⟨g, cp, rest, rfl, _, hcp, _, _⟩ := own_blk ho (by decide)
  obtain ⟨A, c, eA, _, _, hrd, _⟩ := own_form ho
  injection eA with eA _ _
  subst eA
  have h8 := hrd.takeN (k := 8) (by decide)
  rw [← bvs_take] at h8
  have hp : ∀ w', Fr0 w1 w' → ∀ lo, lo + 8 ≤ 32 → Calls Tryd.prog 62 #[.slice (some ⟨g, 0 + lo * 1, none⟩) (32 - lo) (cp - lo)] w' fun e w'' => e = .returned (.int .u64 (val8 (part8 l lo) : Int)) ∧ w' = w'' := fun w' hf' lo hlo => by
    refine number_ok g (0 + lo * 1) (32 - lo) (cp - lo) (part8 l lo) w' ?_ (by omega) (by omega)
    have := rd_part (hrd.fr0 hf') lo 8 hlo
    rw [← bvs_drop, ← bvs_take] at this
    exact this
  have b1 := b8 8
  have b2 := b8 16
  have b3 := b8 24
  iterate 5 refine sxl_y (wn_none rfl) rfl rfl (yp rfl) ?_
  refine sxl_nil ?_
  refine qx_seq ?_
  refine sx_seq ?_
  refine sx_seq ?_
  refine sx_region ?_
  refine sxl_y (wn_none rfl) rfl rfl (yp rfl) ?_
  refine sxl_y (wn_none rfl) rfl rfl (y_neq_f rfl rfl rfl (by omega)) ?_
  refine sxl_y (wn_none rfl) rfl rfl (yp rfl) ?_
  refine sxl_y (wn_on rfl rfl rfl) rfl rfl (yp rfl) ?_
  refine sxl_y (wn_on rfl rfl rfl) rfl rfl (y_len rfl rfl (sl rfl)) ?_
  refine sxl_y (wn_on rfl rfl rfl) rfl rfl (y_neq_f rfl rfl rfl (by omega)) ?_
  iterate 2 refine sxl_y (wn_none rfl) rfl rfl (yp rfl) ?_
  refine sxl_y (wn_on rfl rfl rfl) rfl rfl (yp rfl) ?_
  refine sxl_y (wn_on rfl rfl rfl) rfl rfl (y_sliceTo rfl rfl rfl (sl rfl) (by omega)) ?_
  refine sxl_y (wn_on rfl rfl rfl) rfl rfl (y_bstr rfl rfl Tryd.underlying39 Tryd.underlying5 Tryd.underlying9 h8) ?_
  refine sxl_y (wn_on rfl rfl rfl) rfl rfl (y_sneq_f (b := magicB) rfl rfl rfl hm) ?_
  refine sxl_y (wn_none rfl) rfl rfl (yp rfl) ?_
  refine sxl_nil ?_
  refine qx_seq ?_
  refine sx_false rfl ?_
  refine sx_skip ?_
  refine qx_seq ?_
  refine sx_seq ?_
  refine sx_still hmix (by kernel_rfl) ?_
  refine sxs_y (wn_none rfl) rfl rfl (yp rfl) ?_
  refine sxs_y (wn_none rfl) rfl rfl (y_sliceFromN _ rfl rfl rfl (sl rfl) (Int.toNat_of_nonneg (by decide)).symm (by decide) (by omega)) ?_
  refine sxs_call (wn_none rfl) rfl rfl (yc_call rfl rfl Tryd.call62) (hp _ (Fr.refl.drew) _ (by decide)) ?_
  refine sxs_y (wn_none rfl) rfl rfl (yp rfl) ?_
  refine sxs_y (wn_none rfl) rfl rfl (y_sliceFromN _ rfl rfl rfl (sl rfl) (Int.toNat_of_nonneg (by decide)).symm (by decide) (by omega)) ?_
  refine sxs_call (wn_none rfl) rfl rfl (yc_call rfl rfl Tryd.call62) (hp _ (Fr.refl.drew) _ (by decide)) ?_
  iterate 2 refine sxs_y (wn_none rfl) rfl rfl (yp rfl) ?_
  refine sxs_end ?_
  refine qx_seq ?_
  refine sx_seq ?_
  refine sx_seq ?_
  refine sx_region ?_
  refine sxl_y (wn_none rfl) rfl rfl (yp rfl) ?_
  rw [show Int.toNat 8 = 8 from rfl, show Int.toNat 16 = 16 from rfl]
  have c1 := c1.fr (Fr.refl.drew : Fr0 w1 w1.drew) (fun hh => hh)
  have hf := hf.drew
  have hp3 := hp _ (Fr.refl.drew : Fr0 w1 w1.drew) 24 (by decide)
  generalize val8 (part8 l 8) = s1 at *
  generalize val8 (part8 l 16) = s2 at *
  generalize val8 (part8 l 24) = s3 at *
  by_cases g1 : 4611686018427387904 < s1
  · rw [if_pos (.inl g1)]
    refine sxl_y (wn_none rfl) rfl rfl (y_gtr_t rfl rfl rfl (by omega)) ?_
    refine sxl_y (wn_none rfl) rfl rfl (yp rfl) ?_
    refine sxl_off rfl rfl rfl rfl rfl rfl ?_
    refine sxl_off rfl rfl rfl rfl rfl rfl ?_
    refine sxl_off rfl rfl rfl rfl rfl rfl ?_
    refine sxl_off rfl rfl rfl rfl rfl rfl ?_
    refine sxl_off rfl rfl rfl rfl rfl rfl ?_
    iterate 2 refine sxl_y (wn_none rfl) rfl rfl (yp rfl) ?_
    refine sxl_off rfl rfl rfl rfl rfl rfl ?_
    refine sxl_off rfl rfl rfl rfl rfl rfl ?_
    refine sxl_off rfl rfl rfl rfl rfl rfl ?_
    refine sxl_offU rfl rfl rfl rfl rfl ?_
    refine sxl_offU rfl rfl rfl rfl rfl ?_
    refine sxl_offU rfl rfl rfl rfl rfl ?_
    refine sxl_offU rfl rfl rfl rfl rfl ?_
    refine sxl_offU rfl rfl rfl rfl rfl ?_
    refine sxl_offU rfl rfl rfl rfl rfl ?_
    refine sxl_offU rfl rfl rfl rfl rfl ?_
    refine sxl_offU rfl rfl rfl rfl rfl ?_
    refine sxl_offU rfl rfl rfl rfl rfl ?_
    refine sxl_offU rfl rfl rfl rfl rfl ?_
    refine sxl_offU rfl rfl rfl rfl rfl ?_
    refine sxl_off rfl rfl rfl rfl rfl rfl ?_
    refine sxl_y (wn_none rfl) rfl rfl (yp rfl) ?_
    refine sxl_nil ?_
    refine qx_seq ?_
    refine sx_true rfl ?_
    refine sx_seq ?_
    refine sx_region ?_
    iterate 2 refine sxl_y (wn_none rfl) rfl rfl (yp rfl) ?_
    refine sxl_nil ?_
    refine qx_seq ?_
    refine sx_ret ?_
    refine qx_then_ret ?_
    refine qx_ret2 rfl rfl rfl ?_
    exact ⟨rfl, hf⟩
  by_cases g2 : s1 ≠ s3
  · rw [if_pos (.inr (.inl g2))]
    refine sxl_y (wn_none rfl) rfl rfl (y_gtr_f rfl rfl rfl (by omega)) ?_
    refine sxl_y (wn_none rfl) rfl rfl (yp rfl) ?_
    refine sxl_y (wn_on rfl rfl rfl) rfl rfl (yp rfl) ?_
    refine sxl_y (wn_on rfl rfl rfl) rfl rfl (yp rfl) ?_
    refine sxl_y (wn_on rfl rfl rfl) rfl rfl (y_sliceFromN 24 rfl rfl rfl (sl rfl) rfl (by omega) (by omega)) ?_
    refine sxl_pure (wn_on rfl rfl rfl) rfl rfl (yc_call rfl rfl Tryd.call62) (hp3) ?_
    refine sxl_y (wn_on rfl rfl rfl) rfl rfl (y_neq_t rfl rfl rfl (by omega)) ?_
    iterate 2 refine sxl_y (wn_none rfl) rfl rfl (yp rfl) ?_
    refine sxl_off rfl rfl rfl rfl rfl rfl ?_
    refine sxl_off rfl rfl rfl rfl rfl rfl ?_
    refine sxl_off rfl rfl rfl rfl rfl rfl ?_
    refine sxl_offU rfl rfl rfl rfl rfl ?_
    refine sxl_offU rfl rfl rfl rfl rfl ?_
    refine sxl_offU rfl rfl rfl rfl rfl ?_
    refine sxl_offU rfl rfl rfl rfl rfl ?_
    refine sxl_offU rfl rfl rfl rfl rfl ?_
    refine sxl_offU rfl rfl rfl rfl rfl ?_
    refine sxl_offU rfl rfl rfl rfl rfl ?_
    refine sxl_offU rfl rfl rfl rfl rfl ?_
    refine sxl_offU rfl rfl rfl rfl rfl ?_
    refine sxl_offU rfl rfl rfl rfl rfl ?_
    refine sxl_offU rfl rfl rfl rfl rfl ?_
    refine sxl_off rfl rfl rfl rfl rfl rfl ?_
    refine sxl_y (wn_none rfl) rfl rfl (yp rfl) ?_
    refine sxl_nil ?_
    refine qx_seq ?_
    refine sx_true rfl ?_
    refine sx_seq ?_
    refine sx_region ?_
    iterate 2 refine sxl_y (wn_none rfl) rfl rfl (yp rfl) ?_
    refine sxl_nil ?_
    refine qx_seq ?_
    refine sx_ret ?_
    refine qx_then_ret ?_
    refine qx_ret2 rfl rfl rfl ?_
    exact ⟨rfl, hf⟩
  have g2 : s1 = s3 := by omega
  have hw1 : IntKind.i64.wrap (s1 : Int) = (s1 : Int) := by rw [IntKind.wrap_i64]; omega
  by_cases g3 : s2 = 0
  · rw [if_neg (by omega)]
    have hw2 : IntKind.i64.wrap (s2 : Int) = (s2 : Int) := by rw [IntKind.wrap_i64]; omega
    refine sxl_y (wn_none rfl) rfl rfl (y_gtr_f rfl rfl rfl (by omega)) ?_
    refine sxl_y (wn_none rfl) rfl rfl (yp rfl) ?_
    refine sxl_y (wn_on rfl rfl rfl) rfl rfl (yp rfl) ?_
    refine sxl_y (wn_on rfl rfl rfl) rfl rfl (yp rfl) ?_
    refine sxl_y (wn_on rfl rfl rfl) rfl rfl (y_sliceFromN 24 rfl rfl rfl (sl rfl) rfl (by omega) (by omega)) ?_
    refine sxl_pure (wn_on rfl rfl rfl) rfl rfl (yc_call rfl rfl Tryd.call62) (hp3) ?_
    refine sxl_y (wn_on rfl rfl rfl) rfl rfl (y_neq_f rfl rfl rfl (by omega)) ?_
    iterate 2 refine sxl_y (wn_none rfl) rfl rfl (yp rfl) ?_
    refine sxl_y (wn_on rfl rfl rfl) rfl rfl (yp rfl) ?_
    refine sxl_y (wn_on rfl rfl rfl) rfl rfl (y_neq_f rfl rfl rfl (by omega)) ?_
    refine sxl_y (wn_on rfl rfl rfl) rfl rfl (yp rfl) ?_
    refine sxl_off rfl rfl rfl rfl rfl rfl ?_
    refine sxl_off rfl rfl rfl rfl rfl rfl ?_
    refine sxl_off rfl rfl rfl rfl rfl rfl ?_
    refine sxl_offU rfl rfl rfl rfl rfl ?_
    refine sxl_offU rfl rfl rfl rfl rfl ?_
    refine sxl_offU rfl rfl rfl rfl rfl ?_
    refine sxl_offU rfl rfl rfl rfl rfl ?_
    refine sxl_offU rfl rfl rfl rfl rfl ?_
    refine sxl_offU rfl rfl rfl rfl rfl ?_
    refine sxl_offU rfl rfl rfl rfl rfl ?_
    refine sxl_off rfl rfl rfl rfl rfl rfl ?_
    refine sxl_y (wn_on rfl rfl rfl) rfl rfl (yp rfl) ?_
    refine sxl_y (wn_none rfl) rfl rfl (yp rfl) ?_
    refine sxl_nil ?_
    refine qx_seq ?_
    refine sx_false rfl ?_
    refine sx_skip ?_
    refine qx_seq ?_
    refine sx_seq ?_
    refine sx_region ?_
    refine sxl_y (wn_none rfl) rfl rfl (yp rfl) ?_
    refine sxl_y (wn_none rfl) rfl rfl (y_convInt rfl rfl Tryd.underlying108 Tryd.underlying3 hw1) ?_
    refine sxl_y (wn_none rfl) rfl rfl (yp rfl) ?_
    refine sxl_y (wn_none rfl) rfl rfl (y_convInt rfl rfl Tryd.underlying108 Tryd.underlying3 hw2) ?_
    iterate 2 refine sxl_y (wn_none rfl) rfl rfl (yp rfl) ?_
    refine sxl_nil ?_
    refine qx_seq ?_
    refine sx_ret ?_
    refine qx_ret2 rfl rfl rfl ?_
    exact ⟨rfl, hf⟩
  by_cases g4 : s2 < 2
  · rw [if_pos (.inr (.inr ⟨g3, .inl g4⟩))]
    refine sxl_y (wn_none rfl) rfl rfl (y_gtr_f rfl rfl rfl (by omega)) ?_
    refine sxl_y (wn_none rfl) rfl rfl (yp rfl) ?_
    refine sxl_y (wn_on rfl rfl rfl) rfl rfl (yp rfl) ?_
    refine sxl_y (wn_on rfl rfl rfl) rfl rfl (yp rfl) ?_
    refine sxl_y (wn_on rfl rfl rfl) rfl rfl (y_sliceFromN 24 rfl rfl rfl (sl rfl) rfl (by omega) (by omega)) ?_
    refine sxl_pure (wn_on rfl rfl rfl) rfl rfl (yc_call rfl rfl Tryd.call62) (hp3) ?_
    refine sxl_y (wn_on rfl rfl rfl) rfl rfl (y_neq_f rfl rfl rfl (by omega)) ?_
    iterate 2 refine sxl_y (wn_none rfl) rfl rfl (yp rfl) ?_
    refine sxl_y (wn_on rfl rfl rfl) rfl rfl (yp rfl) ?_
    refine sxl_y (wn_on rfl rfl rfl) rfl rfl (y_neq_t rfl rfl rfl (by omega)) ?_
    refine sxl_y (wn_on rfl rfl rfl) rfl rfl (yp rfl) ?_
    refine sxl_y (wn_on rfl rfl rfl) rfl rfl (yp rfl) ?_
    refine sxl_y (wn_on rfl rfl rfl) rfl rfl (y_lss_t rfl rfl rfl (by omega)) ?_
    refine sxl_y (wn_on rfl rfl rfl) rfl rfl (yp rfl) ?_
    refine sxl_off rfl rfl rfl rfl rfl rfl ?_
    refine sxl_off rfl rfl rfl rfl rfl rfl ?_
    refine sxl_off rfl rfl rfl rfl rfl rfl ?_
    refine sxl_off rfl rfl rfl rfl rfl rfl ?_
    refine sxl_off rfl rfl rfl rfl rfl rfl ?_
    refine sxl_off rfl rfl rfl rfl rfl rfl ?_
    refine sxl_off rfl rfl rfl rfl rfl rfl ?_
    refine sxl_y (wn_on rfl rfl rfl) rfl rfl (yp rfl) ?_
    refine sxl_y (wn_on rfl rfl rfl) rfl rfl (yp rfl) ?_
    refine sxl_y (wn_none rfl) rfl rfl (yp rfl) ?_
    refine sxl_nil ?_
    refine qx_seq ?_
    refine sx_true rfl ?_
    refine sx_seq ?_
    refine sx_region ?_
    iterate 2 refine sxl_y (wn_none rfl) rfl rfl (yp rfl) ?_
    refine sxl_nil ?_
    refine qx_seq ?_
    refine sx_ret ?_
    refine qx_then_ret ?_
    refine qx_ret2 rfl rfl rfl ?_
    exact ⟨rfl, hf⟩
  by_cases g5 : p.pages ≤ s2
  · rw [if_pos (.inr (.inr ⟨g3, .inr g5⟩))]
    refine sxl_y (wn_none rfl) rfl rfl (y_gtr_f rfl rfl rfl (by omega)) ?_
    refine sxl_y (wn_none rfl) rfl rfl (yp rfl) ?_
    refine sxl_y (wn_on rfl rfl rfl) rfl rfl (yp rfl) ?_
    refine sxl_y (wn_on rfl rfl rfl) rfl rfl (yp rfl) ?_
    refine sxl_y (wn_on rfl rfl rfl) rfl rfl (y_sliceFromN 24 rfl rfl rfl (sl rfl) rfl (by omega) (by omega)) ?_
    refine sxl_pure (wn_on rfl rfl rfl) rfl rfl (yc_call rfl rfl Tryd.call62) (hp3) ?_
    refine sxl_y (wn_on rfl rfl rfl) rfl rfl (y_neq_f rfl rfl rfl (by omega)) ?_
    iterate 2 refine sxl_y (wn_none rfl) rfl rfl (yp rfl) ?_
    refine sxl_y (wn_on rfl rfl rfl) rfl rfl (yp rfl) ?_
    refine sxl_y (wn_on rfl rfl rfl) rfl rfl (y_neq_t rfl rfl rfl (by omega)) ?_
    refine sxl_y (wn_on rfl rfl rfl) rfl rfl (yp rfl) ?_
    refine sxl_y (wn_on rfl rfl rfl) rfl rfl (yp rfl) ?_
    refine sxl_y (wn_on rfl rfl rfl) rfl rfl (y_lss_f rfl rfl rfl (by omega)) ?_
    refine sxl_y (wn_on rfl rfl rfl) rfl rfl (yp rfl) ?_
    refine sxl_y (wn_on rfl rfl rfl) rfl rfl (yp rfl) ?_
    refine sxl_y (wn_on rfl rfl rfl) rfl rfl (yp rfl) ?_
    refine sxl_y (wn_on rfl rfl rfl) rfl rfl (yp rfl) ?_
    refine sxl_y (wn_on rfl rfl rfl) rfl rfl (yp rfl) ?_
    refine sxl_y (wn_on rfl rfl rfl) rfl rfl (y_load rfl rfl (sc rfl) (by assumption)) ?_
    refine sxl_y (wn_on rfl rfl rfl) rfl rfl (y_convInt rfl rfl Tryd.underlying3 Tryd.underlying108 hpw) ?_
    refine sxl_y (wn_on rfl rfl rfl) rfl rfl (y_geq_t rfl rfl rfl (by omega)) ?_
    refine sxl_y (wn_on rfl rfl rfl) rfl rfl (yp rfl) ?_
    refine sxl_y (wn_on rfl rfl rfl) rfl rfl (yp rfl) ?_
    refine sxl_y (wn_none rfl) rfl rfl (yp rfl) ?_
    refine sxl_nil ?_
    refine qx_seq ?_
    refine sx_true rfl ?_
    refine sx_seq ?_
    refine sx_region ?_
    iterate 2 refine sxl_y (wn_none rfl) rfl rfl (yp rfl) ?_
    refine sxl_nil ?_
    refine qx_seq ?_
    refine sx_ret ?_
    refine qx_then_ret ?_
    refine qx_ret2 rfl rfl rfl ?_
    exact ⟨rfl, hf⟩
  rw [if_neg (by omega)]
  have hw2 : IntKind.i64.wrap (s2 : Int) = (s2 : Int) := by rw [IntKind.wrap_i64]; omega
  refine sxl_y (wn_none rfl) rfl rfl (y_gtr_f rfl rfl rfl (by omega)) ?_
  refine sxl_y (wn_none rfl) rfl rfl (yp rfl) ?_
  refine sxl_y (wn_on rfl rfl rfl) rfl rfl (yp rfl) ?_
  refine sxl_y (wn_on rfl rfl rfl) rfl rfl (yp rfl) ?_
  refine sxl_y (wn_on rfl rfl rfl) rfl rfl (y_sliceFromN 24 rfl rfl rfl (sl rfl) rfl (by omega) (by omega)) ?_
  refine sxl_pure (wn_on rfl rfl rfl) rfl rfl (yc_call rfl rfl Tryd.call62) (hp3) ?_
  refine sxl_y (wn_on rfl rfl rfl) rfl rfl (y_neq_f rfl rfl rfl (by omega)) ?_
  iterate 2 refine sxl_y (wn_none rfl) rfl rfl (yp rfl) ?_
  refine sxl_y (wn_on rfl rfl rfl) rfl rfl (yp rfl) ?_
  refine sxl_y (wn_on rfl rfl rfl) rfl rfl (y_neq_t rfl rfl rfl (by omega)) ?_
  refine sxl_y (wn_on rfl rfl rfl) rfl rfl (yp rfl) ?_
  refine sxl_y (wn_on rfl rfl rfl) rfl rfl (yp rfl) ?_
  refine sxl_y (wn_on rfl rfl rfl) rfl rfl (y_lss_f rfl rfl rfl (by omega)) ?_
  refine sxl_y (wn_on rfl rfl rfl) rfl rfl (yp rfl) ?_
  refine sxl_y (wn_on rfl rfl rfl) rfl rfl (yp rfl) ?_
  refine sxl_y (wn_on rfl rfl rfl) rfl rfl (yp rfl) ?_
  refine sxl_y (wn_on rfl rfl rfl) rfl rfl (yp rfl) ?_
  refine sxl_y (wn_on rfl rfl rfl) rfl rfl (yp rfl) ?_
  refine sxl_y (wn_on rfl rfl rfl) rfl rfl (y_load rfl rfl (sc rfl) (by assumption)) ?_
  refine sxl_y (wn_on rfl rfl rfl) rfl rfl (y_convInt rfl rfl Tryd.underlying3 Tryd.underlying108 hpw) ?_
  refine sxl_y (wn_on rfl rfl rfl) rfl rfl (y_geq_f rfl rfl rfl (by omega)) ?_
  refine sxl_y (wn_on rfl rfl rfl) rfl rfl (yp rfl) ?_
  refine sxl_y (wn_on rfl rfl rfl) rfl rfl (yp rfl) ?_
  refine sxl_y (wn_none rfl) rfl rfl (yp rfl) ?_
  refine sxl_nil ?_
  refine qx_seq ?_
  refine sx_false rfl ?_
  refine sx_skip ?_
  refine qx_seq ?_
  refine sx_seq ?_
  refine sx_region ?_
  refine sxl_y (wn_none rfl) rfl rfl (yp rfl) ?_
  refine sxl_y (wn_none rfl) rfl rfl (y_convInt rfl rfl Tryd.underlying108 Tryd.underlying3 hw1) ?_
  refine sxl_y (wn_none rfl) rfl rfl (yp rfl) ?_
  refine sxl_y (wn_none rfl) rfl rfl (y_convInt rfl rfl Tryd.underlying108 Tryd.underlying3 hw2) ?_
  iterate 2 refine sxl_y (wn_none rfl) rfl rfl (yp rfl) ?_
  refine sxl_nil ?_
  refine qx_seq ?_
  refine sx_ret ?_
  refine qx_ret2 rfl rfl rfl ?_
  exact ⟨rfl, hf⟩
end
end Go.Proofs.YthdlljlcffokbaaDoor
