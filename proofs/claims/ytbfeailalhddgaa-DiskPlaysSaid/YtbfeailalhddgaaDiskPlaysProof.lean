/- DiskPlays: for every number and every slice of steps the law returns true, and what came in reads as it did. No condition. -/
import Derived.Test.YtbfeailalhddgaaDiskRow
import Derived.Test.YtbfeailalhddgaaPlay10
import Derived.ChangeOld
import Derived.Below
namespace Go.Proofs.Ytbfeailalhddgaa
open Go.ChangeShapes Go.WideShapes Go.ChangeAt Go.RowKit Go.Deep

theorem cells_step : Try.prog.cellsOf 54 = 7 := by kernel_rfl
theorem cells_int : Try.prog.cellsOf 3 = 1 := by kernel_rfl
theorem cells_bytes : Try.prog.cellsOf 32 = 1 := by kernel_rfl
theorem cells_bools : Try.prog.cellsOf 23 = 1 := by kernel_rfl
theorem all_mapP {α β : Type} (f : β → α) (Q : β → Prop) : ∀ (rows : List α), (∀ r ∈ rows, ∃ p, r = f p ∧ Q p) → ∃ l : List β, rows = l.map f ∧ ∀ p ∈ l, Q p
  | [], _ => ⟨[], rfl, fun p hp => by cases hp⟩
  | r :: rows, h => by
    obtain ⟨p, hp, hq⟩ := h r (by simp)
    obtain ⟨l, hl, hl2⟩ := all_mapP f Q rows (fun r hr => h r (by simp [hr]))
    refine ⟨p :: l, by rw [hp, hl]; rfl, fun x hx => ?_⟩
    rcases List.mem_cons.1 hx with rfl | hx
    · exact hq
    · exact hl2 x hx
section
variable {H : Type} {enc : TypeId × Value → H} {w : World}
theorem slice_form {t e fuel : Nat} {v : Value} {x : DataW H × List MemPlace} (ht : Try.prog.underlying t = some (.slice e)) (h : DataW.trod enc Try.prog w 0 (fun _ => true) true fuel t [v] = some x) : ∃ A len cap, v = .slice A len cap := by
  rcases open_slice ht h with ⟨hcs, _⟩ | ⟨a, len, cap, m, n, D, Pl, hcs, _⟩
  · exact ⟨none, 0, 0, by simpa using hcs⟩
  · exact ⟨some a, len, cap, by simpa using hcs⟩
theorem in_bytes {A : Option Addr} {len cap fuel : Nat} {x : DataW H × List MemPlace} (h : DataW.trod enc Try.prog w 0 (fun _ => true) true fuel 32 [.slice A len cap] = some x) :
    ∃ l : List UInt8, l.length = len ∧ Rd w A l.length (bvs l) ∧ len ≤ cap ∧ cap ≤ maxLen := by
  obtain ⟨rows, D, hl, _, _, hr, hc, hm, _, hx, _⟩ := rd_slice Try.underlying32 cells_u8 (by omega) h
  obtain ⟨l, rfl⟩ := all_map (fun b => [bv b]) rows (fun r hr => by
    obtain ⟨i, hi⟩ := List.getElem?_of_mem hr
    obtain ⟨d, _, n, p, hd⟩ := hx i r hi
    obtain ⟨a, ha, _, wa⟩ := DataW.trod_int Try.underlying5 hd
    exact ⟨UInt8.ofNat a.toNat, by rw [ha, u8_of wa]⟩)
  rw [List.length_map] at hl
  subst hl
  refine ⟨l, rfl, ?_, hc, hm⟩
  have e : (l.map fun b => [bv b]).flatten = bvs l := by
    unfold bvs
    generalize l = l'
    induction l' with
    | nil => rfl
    | cons b l ih => rw [List.map_cons, List.flatten_cons, ih]; rfl
  rw [e, Nat.mul_one] at hr
  exact hr
theorem in_bools2 {A : Option Addr} {len cap fuel : Nat} {x : DataW H × List MemPlace} (h : DataW.trod enc Try.prog w 0 (fun _ => true) true fuel 23 [.slice A len cap] = some x) :
    ∃ l : List Bool, l.length = len ∧ Rd w A l.length (boolsV l) ∧ len ≤ cap ∧ cap ≤ maxLen := by
  obtain ⟨l, hl, hr, _, _⟩ := in_bools h
  obtain ⟨rows, D, _, _, _, _, hc, hm, _, _, _⟩ := rd_slice Try.underlying23 cells_bool (by omega) h
  exact ⟨l, hl, hr, hc, hm⟩
theorem read_step {r : List Value} {d : DataW H} (h : Reads enc Try.prog w 54 r d) : ∃ p : St, r = p.cells ∧ p.Ok w ∧ (-9223372036854775808 ≤ p.at_ ∧ p.at_ ≤ 9223372036854775807) := by
  obtain ⟨n, pl, h⟩ := h
  obtain ⟨xs, m, _, _, hl, hlen, hf⟩ := DataW.trod_struct Try.underlying54 h
  rw [cells_step] at hl
  match xs, hlen, r, hl with
  | [y0, y1, y2, y3, y4, y5, y6], _, [r0, r1, r2, r3, r4, r5, r6], _ =>
    have f0 : DataW.trod enc Try.prog w 0 (fun _ => true) true m 3 (([r0, r1, r2, r3, r4, r5, r6].drop 0).take (Try.prog.cellsOf 3)) = some y0 := hf 0 _ rfl
    rw [cells_int] at f0
    have f1 : DataW.trod enc Try.prog w 0 (fun _ => true) true m 3 (([r0, r1, r2, r3, r4, r5, r6].drop 1).take (Try.prog.cellsOf 3)) = some y1 := hf 1 _ rfl
    rw [cells_int] at f1
    have f2 : DataW.trod enc Try.prog w 0 (fun _ => true) true m 32 (([r0, r1, r2, r3, r4, r5, r6].drop 2).take (Try.prog.cellsOf 32)) = some y2 := hf 2 _ rfl
    rw [cells_bytes] at f2
    have f3 : DataW.trod enc Try.prog w 0 (fun _ => true) true m 4 (([r0, r1, r2, r3, r4, r5, r6].drop 3).take (Try.prog.cellsOf 4)) = some y3 := hf 3 _ rfl
    rw [cells_bool] at f3
    have f4 : DataW.trod enc Try.prog w 0 (fun _ => true) true m 23 (([r0, r1, r2, r3, r4, r5, r6].drop 4).take (Try.prog.cellsOf 23)) = some y4 := hf 4 _ rfl
    rw [cells_bools] at f4
    have f5 : DataW.trod enc Try.prog w 0 (fun _ => true) true m 3 (([r0, r1, r2, r3, r4, r5, r6].drop 5).take (Try.prog.cellsOf 3)) = some y5 := hf 5 _ rfl
    rw [cells_int] at f5
    have f6 : DataW.trod enc Try.prog w 0 (fun _ => true) true m 3 (([r0, r1, r2, r3, r4, r5, r6].drop 6).take (Try.prog.cellsOf 3)) = some y6 := hf 6 _ rfl
    rw [cells_int] at f6
    obtain ⟨a0, e0, _, _⟩ := DataW.trod_int Try.underlying3 f0
    obtain ⟨a1, e1, _, w1⟩ := DataW.trod_int Try.underlying3 f1
    obtain ⟨a3, e3, _⟩ := DataW.trod_bool Try.underlying4 f3
    obtain ⟨a5, e5, _, _⟩ := DataW.trod_int Try.underlying3 f5
    obtain ⟨a6, e6, _, _⟩ := DataW.trod_int Try.underlying3 f6
    have f2' : DataW.trod enc Try.prog w 0 (fun _ => true) true m 32 [r2] = some y2 := f2
    have f4' : DataW.trod enc Try.prog w 0 (fun _ => true) true m 23 [r4] = some y4 := f4
    obtain ⟨A2, l2, c2, rfl⟩ := slice_form Try.underlying32 f2'
    obtain ⟨A4, l4, c4, rfl⟩ := slice_form Try.underlying23 f4'
    obtain ⟨dl, rfl, hd, hdc, hdm⟩ := in_bytes f2'
    obtain ⟨kl, rfl, hk, hkc, hkm⟩ := in_bools2 f4'
    obtain rfl : r0 = _ := by simpa using e0
    obtain rfl : r1 = _ := by simpa using e1
    obtain rfl : r3 = _ := by simpa using e3
    obtain rfl : r5 = _ := by simpa using e5
    obtain rfl : r6 = _ := by simpa using e6
    unfold maxLen at hdm hkm
    exact ⟨⟨a0, a1, A2, c2, dl, a3, A4, c4, kl, a5, a6⟩, rfl, ⟨hd, hdc, by show (dl.length : Int) < _; omega, hk, hkc, by show (kl.length : Int) < _; omega⟩, bounds_i64 w1⟩
theorem in_steps {A : Option Addr} {len cap fuel : Nat} {x : DataW H × List MemPlace} (h : DataW.trod enc Try.prog w 0 (fun _ => true) true fuel 47 [.slice A len cap] = some x) :
    ∃ l : List St, l.length = len ∧ Rd w A (l.length * 7) (flatS l) ∧ ∀ p ∈ l, p.Ok w ∧ (-9223372036854775808 ≤ p.at_ ∧ p.at_ ≤ 9223372036854775807) := by
  obtain ⟨rows, D, hl, _, _, hr, _, _, _, hx, _⟩ := rd_slice Try.underlying47 cells_step (by omega) h
  obtain ⟨l, rfl, hQ⟩ := all_mapP St.cells (fun p => p.Ok w ∧ (-9223372036854775808 ≤ p.at_ ∧ p.at_ ≤ 9223372036854775807)) rows (fun r hr => by
    obtain ⟨i, hi⟩ := List.getElem?_of_mem hr
    obtain ⟨d, _, hd⟩ := hx i r hi
    exact read_step hd)
  rw [List.length_map] at hl
  subst hl
  exact ⟨l, rfl, hr, hQ⟩
end

set_option maxRecDepth 100000 in
theorem diskPlays_lifted (os : Os) (started : os.Started) (H : Type) (enc : TypeId × Value → H) :
    ReturnsInHanded {} Try.checked os 5 .any (Rows.diskPlaysSpec.pre6 enc Try.prog Try.f5 Rows.diskPlaysRow.domain false) (Rows.diskPlaysSpec.post enc Try.prog Try.f5 false true false false) := by
  refine returnsInHanded_of_change_sized (C := Try.checked) own started (by kernel_rfl) Try.func5
    (ChangeSpec.witness6 (enc := enc) (C := Try.checked) false ⟨#[], #[.int .i64 0, .slice none 0 0], []⟩ 8 (by kernel_rfl) (by kernel_rfl) (by kernel_rfl) (by kernel_rfl)) ?_
  intro W base args ds gs before hval0 hW hcnd hsz0 _
  have hval : ∀ (j : Nat) t v, Try.f5.params[j]? = some t → args[j]? = some v → Value.okWide Try.prog W .any base t v := hval0
  have hW' := hW
  obtain ⟨p, q, hA0, hV, rfl, hfz, hnd⟩ := hW
  have hA : DataW.TrodAll enc Try.prog W 0 (fun _ => true) true Try.f5.params.toList args.toList ds p := hA0
  rw [Try.params5] at hA hval
  obtain ⟨v0, vs0, d0, ds0, p0, q0, hargs, rfl, rfl, h0, r0⟩ := trodAll_cons hA
  obtain ⟨v1, vs1, d1, ds1, p1, q1, rfl, rfl, rfl, h1, r1⟩ := trodAll_cons r0
  obtain ⟨rfl, rfl, rfl⟩ := trodAll_nil r1
  obtain rfl : args = #[v0, v1] := by cases args; simp_all
  obtain ⟨rfl, rfl⟩ := trodVars_none hV
  obtain ⟨a0, rfl, rfl, rfl, w0⟩ := open_int Try.underlying3 (hval 0 3 v0 rfl rfl) h0
  obtain ⟨a1, len1, cap1, rfl⟩ := okWide_slice Try.underlying47 (hval 1 47 v1 rfl rfl)
  have k1 := h1
  have lt1 : ∀ x ∈ p1, x.block < W.heap.size := by obtain ⟨m, hm⟩ := k1; exact DataW.trod_lt m _ _ _ hm
  obtain ⟨l, rfl, hl, hok⟩ : ∃ l : List St, l.length = len1 ∧ Rd W a1 (l.length * 7) (flatS l) ∧ ∀ p ∈ l, p.Ok W ∧ (-9223372036854775808 ≤ p.at_ ∧ p.at_ ≤ 9223372036854775807) := by
    obtain ⟨fuel, hf⟩ := h1
    exact in_steps hf
  clear hA0 hval0
  refine (diskPlays_walk a0 a1 cap1 l W hl hok).mono fun e W' ⟨he, hf⟩ => ?_
  subst he
  have bel := hf.below
  exact ⟨_, rfl, _, _, _, [], _, [], hW', trodAll_mk1 (shut_bool Try.underlying4 _), (trodAll_cons_mk (shut_int Try.underlying3 w0) (trodAll_cons_mk (Below.trod laidOut (by kernel_rfl) (of_decide_eq_true (by kernel_rfl)) k1 bel lt1) trodAll_mk0)), rfl, bel.frame _, fun h => by cases h⟩

theorem diskPlays_holds : Rows.DiskPlaysSaid :=
  OpenClaim.holds_of_wide 5 Try.f5 rfl rfl rfl rfl rfl rfl rfl ⟨rfl, rfl, rfl, rfl, rfl⟩ rfl rfl rfl rfl rfl (by kernel_rfl) Try.func5 (by kernel_rfl)
    (of_decide_eq_true (by kernel_rfl)) (by unfold Func.isWrapper; first | (rw [if_pos (by decide +kernel)]; kernel_rfl) | (rw [if_neg (by decide +kernel)]; exact ⟨rfl, rfl⟩))
    (fun os started H enc _ => diskPlays_lifted os started H enc)
#print axioms diskPlays_holds
end Go.Proofs.Ytbfeailalhddgaa
