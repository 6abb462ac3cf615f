/- Lemmas that the last text rests on. Condition: each says its own. -/
import Derived.Test.YtaheakjfkpkefaaGreatDoorYMv11
import Derived.ArgAppend
set_option maxHeartbeats 16000000
set_option maxRecDepth 100000
namespace Go.Proofs.YtaheakjfkpkefaaGreatDoor
open Go.RowKit
open Tryz
theorem ZA (m : Md) (gc : Nat) (c : CrA) (F : List Nat) (l : List Bd) (A : Option Addr) (cap : Nat) (w : World) (hC : CourseN w m gc c F) (hok : BdOk l) (hA : Rd w A (l.length * 5) (AB Bd.cells l)) (hY : Lay0 w) :
 Calls prog 30 #[pg gc, .slice A l.length cap] w (BN w (.bool (HP l m.vars))) := by
 refine BL func30 ntmps30 rfl fun M => srg (AG rfl (srg ?_))
 iterate 5 refine yb rfl ?_
 exact yl rfl rfl (Blk.c ((hC.fr0 M.fr).blk) 2 rfl) (DV M 11 rfl rfl call57 (oU l m.vars A c.a.V cap c.a.vc _ hok (hA.fr0 M.fr) ((hC.fr0 M.fr).md.md.vars) (hY.fr0 M.fr)) fun w1 M => yb rfl (gnr (gr1 rfl ⟨rfl, M.fr⟩)))
section
section
variable {P : Program} {e : Env} {w : World} {o : Oper} {ρ : Operand → Value}
theorem sF {t len cap sz el : Nat} {A : Option Addr} (k : Nat) {x i : Operand} (ho : o.op = .slice t x none (some i) none) (hx : ev e x = some (.slice A len cap)) (hi : ev e i = some (AA (k : Int))) (ht : CZ P t = some (el, sz)) (h : k ≤ cap) : Y P e o w (.slice A k cap) := by
 have := aX (w := w) ho hx hi ht A0
 rwa [Int.toNat_natCast] at this
theorem m2 {t len cap sz el g : Nat} (k : Nat) {x i : Operand} (ho : o.op = .slice t x (some i) none none) (hx : ev e x = some (.slice (some ⟨g, 0, none⟩) len cap)) (hi : ev e i = some (AA (k : Int))) (ht : CZ P t = some (el, sz)) (h : k ≤ len) : Y P e o w (.slice (if cap = k then some ⟨g, 0, none⟩ else some ⟨g, 0 + k * sz, none⟩) (len - k) (cap - k)) := by
 have := VJ (w := w) ho hx hi ht A0
 rw [Int.toNat_natCast, Option.map_some, Addr.add_mid] at this
 exact this
theorem sG {t len cap sz el g : Nat} (lo n : Nat) {x i j : Operand} (ho : o.op = .slice t x (some i) (some j) none) (hx : ev e x = some (.slice (some ⟨g, 0, none⟩) len cap)) (hi : ev e i = some (AA (lo : Int))) (hj : ev e j = some (AA (n : Int))) (ht : CZ P t = some (el, sz)) (h1 : lo < n) (h2 : n ≤ cap) :
 Y P e o w (.slice (some ⟨g, 0 + lo * sz, none⟩) (n - lo) (cap - lo)) := fun ρ h => by
 unfold CZ at ht
 split at ht
 ·rename_i el' hu
  split at ht
  ·rename_i i' hi'
   simp only [Option.some.injEq, Prod.mk.injEq] at ht
   obtain ⟨rfl, rfl⟩ := ht
   have q2 : lo ≤ n := by omega
   have q4 : ¬ cap = lo := by omega
   unfold execOp
   simp [ho, h _ _ hx, h _ _ hi, h _ _ hj, Instr.sliceAt, Instr.slice, run_underlying hu, Instr.sliceBounds, Instr.sliceBound, asIntOf, q2, h2, q4, sizeOf, typeInfo, hi', Addr.add_lit]
  ·cases ht
 ·cases ht
theorem tJ {t len cap sz el g : Nat} (i n m : Nat) {x a b c : Operand} (ho : o.op = .slice t x (some a) (some b) (some c)) (hx : ev e x = some (.slice (some ⟨g, 0, none⟩) len cap)) (ha : ev e a = some (AA (i : Int))) (hb : ev e b = some (AA (n : Int))) (hc : ev e c = some (AA (m : Int))) (ht : CZ P t = some (el, sz)) (h1 : i ≤ n) (h2 : n ≤ m) (h3 : m ≤ cap) (h4 : i < m) :
 Y P e o w (.slice (some ⟨g, 0 + i * sz, none⟩) (n - i) (m - i)) := fun ρ h => by
 unfold CZ at ht
 split at ht
 ·rename_i el' hu
  split at ht
  ·rename_i i' hi'
   simp only [Option.some.injEq, Prod.mk.injEq] at ht
   obtain ⟨rfl, rfl⟩ := ht
   have q5 : ¬ m = i := by omega
   unfold execOp
   simp [ho, h _ _ hx, h _ _ ha, h _ _ hb, h _ _ hc, Instr.sliceAt, Instr.slice, run_underlying hu, Instr.sliceBounds, Instr.sliceBound, asIntOf, h1, h2, h3, q5, sizeOf, typeInfo, hi', Addr.add_lit]
  ·cases ht
 ·cases ht
theorem YU {s x : Operand} {t : TypeId} (ho : o.op = .call { callee := .builtin .append, args := #[s, x], argTypes := #[t, t] }) {el : TypeId} {size g n cap m c : Nat} {cs news : List Value} {A : Option Addr} (ht : P.underlying t = some (.slice el)) (hi : (P.info? el).map (·.size) = some size)
 (hs : ρ s = .slice (some ⟨g, 0, none⟩) n cap) (hb : Blk w g el cs) (hx : ρ x = .slice A m c) (hr : Rd w A (m * size) news) (h1 : ∀ u ∈ news, u.oneCell' = true) (hroom : n + m ≤ cap) (hl : n * size + news.length ≤ cs.length) :
 FM P ρ o w fun v w' => v = .slice (some ⟨g, 0, none⟩) (n + m) cap ∧ Blk w' g el (put cs (n * size) news) ∧ Fr (fun k => k = g) w w' := by
 have hst := run_storeCells_at P g (n * size) el news 0 cs.toArray w hb (by simpa using hl) h1
 simp only [Nat.add_zero] at hst
 refine ⟨_, w.setRow g (put cs (n * size) news).toArray, .inl ?_, rfl, setRow_heap w g _ _ el _ hb, M4 w g _⟩
 cases hq : P.info? el with
 | none => simp [hq] at hi
 | some i =>
  have hsz : i.size = size := by simpa [hq] using hi
  subst hsz
  have hfc : (Builtin.firstCells i.size m (.slice A m c)).run P w = .ok news.toArray w := by
   rcases A with _ | ad
   ·have : news = [] := by
     rcases Nat.eq_zero_or_pos (m * i.size) with h0 | h0
     ·exact List.eq_nil_of_length_eq_zero (by rw [hr.1, h0])
     ·obtain ⟨b, off, h, _⟩ := hr.2 h0; cases h
    subst this; rfl
   ·refine run_firstCells_some (P := P) w i.size m ad m c news hr.1 (fun j u hu => ?_)
    have hl : 0 < m * i.size := by have := (List.getElem?_eq_some_iff.1 hu).1; rw [hr.1] at this; omega
    obtain ⟨b', off', h, hc⟩ := hr.2 hl
    injection h with h
    subst h
    rw [Addr.add_mid]; exact hc j u hu
  unfold execOp
  simp [ho, hs, hx, resolve, invoke, builtin, Builtin.append_, run_underlying ht, sizeOf, typeInfo, hq, Builtin.lenOf, hroom, hfc, Addr.add_lit, hst, put]
theorem eE {x : Operand} {t : TypeId} (ho : o.op = .call { callee := .builtin .clear, args := #[x], argTypes := #[t] }) {el : TypeId} {g off n c : Nat} {cs zs : List Value} {z : Value} (ht : P.underlying t = some (.slice el)) (hi : (P.info? el).map (·.zero) = some (some z)) (hz : z.cells = zs.toArray)
 (hx : ρ x = .slice (some ⟨g, off, none⟩) n c) (hn : n = 1) (hb : Blk w g el cs) (h1 : ∀ u ∈ zs, u.oneCell' = true) (hl : off + zs.length ≤ cs.length) :
 FM P ρ o w fun _ w' => Blk w' g el (put cs off zs) ∧ Fr (fun k => k = g) w w' := by
 subst hn
 have hst := run_storeCells_at P g off el zs 0 cs.toArray w hb (by simpa using hl) h1
 simp only [Nat.add_zero] at hst
 refine ⟨.tuple #[], w.setRow g (put cs off zs).toArray, .inl ?_, setRow_heap w g _ _ el _ hb, M4 w g _⟩
 cases hq : P.info? el with
 | none => simp [hq] at hi
 | some i =>
  have hzz : i.zero = some z := by simpa [hq] using hi
  have hzc : (Builtin.zeroCells z.cells 1).toList = zs := by
   rw [hz]
   apply List.ext_getElem
   ·simp [Builtin.zeroCells]
   ·intro k h1 h2
    simp [Builtin.zeroCells, Nat.mod_eq_of_lt h2, h2]
  unfold execOp
  simp [ho, hx, resolve, invoke, builtin, Builtin.clear_, run_underlying ht, zeroValue, typeInfo, hq, hzz, hzc, hst, put]
end
theorem nF {w : World} {g n k cap sz : Nat} {t : TypeId} {cs : List Value} (hb : Blk w g t cs) (hl : n * sz ≤ cs.length) (hk : k ≤ n) (hn : n ≤ cap) : Rd w (if cap = k then some ⟨g, 0, none⟩ else some ⟨g, 0 + k * sz, none⟩) ((n - k) * sz) ((cs.take (n * sz)).drop (k * sz)) := by
 have hlen : ((cs.take (n * sz)).drop (k * sz)).length = (n - k) * sz := by
  rw [List.length_drop, List.length_take, Nat.min_eq_left hl, Nat.sub_mul]
 refine ⟨hlen, fun h0 => ?_⟩
 have hck : ¬ cap = k := fun hh => by
  have : n - k = 0 := by omega
  rw [this, Nat.zero_mul] at h0; omega
 rw [if_neg hck]
 refine ⟨g, _, rfl, fun j u hu => ?_⟩
 rw [List.getElem?_drop] at hu
 have h2 := List.getElem?_take_of_lt (l := cs) (i := k * sz + j) (j := n * sz) (by
  have := (List.getElem?_eq_some_iff.1 hu).1
  rw [List.length_take] at this; omega)
 rw [h2] at hu
 have := (hb.c (k * sz + j) hu).get w rfl
 simpa using this
def YV (cs zs : List Value) (n i sz : Nat) : List Value := put (put cs (i * sz) ((cs.take (n * sz)).drop ((i + 1) * sz))) ((i + (n - (i + 1))) * sz) zs
theorem kW {cs zs : List Value} {n i sz : Nat} (hl : n * sz ≤ cs.length) (hi : i < n) (hz : zs.length = sz) : (YV cs zs n i sz).length = cs.length := by
 have e1 : n * sz = i * sz + sz + (n - (i + 1)) * sz := by
  rw [← Nat.add_one_mul, ← Nat.add_mul]; congr 1; omega
 have e2 : (i + (n - (i + 1))) * sz = i * sz + (n - (i + 1)) * sz := Nat.add_mul _ _ _
 have e3 : (i + 1) * sz = i * sz + sz := Nat.add_one_mul _ _
 have h1 : (put cs (i * sz) ((cs.take (n * sz)).drop ((i + 1) * sz))).length = cs.length := K6 _ _ _ (by rw [List.length_drop, List.length_take]; omega)
 unfold YV
 rw [K6 _ _ _ A0, h1]
theorem eF {α : Type} {cells : α → List Value} {cs zs : List Value} {l : List α} {i sz : Nat} (hk : ∀ x, (cells x).length = sz) (ht : cs.take (l.length * sz) = AB cells l) (hl : l.length * sz ≤ cs.length) (hi : i < l.length) (hz : zs.length = sz) :
 (YV cs zs l.length i sz).take ((i + (l.length - (i + 1))) * sz) = AB cells (l.eraseIdx i) := by
 have e1 : l.length * sz = i * sz + sz + (l.length - (i + 1)) * sz := by
  rw [← Nat.add_one_mul, ← Nat.add_mul]; congr 1; omega
 have e2 : (i + (l.length - (i + 1))) * sz = i * sz + (l.length - (i + 1)) * sz := Nat.add_mul _ _ _
 have e3 : (i + 1) * sz = i * sz + sz := Nat.add_one_mul _ _
 have hp : (put cs (i * sz) ((cs.take (l.length * sz)).drop ((i + 1) * sz))).length = cs.length := K6 _ _ _ (by rw [List.length_drop, List.length_take]; omega)
 have fl : ∀ k : List α, (AB cells k).length = k.length * sz := fun k => by
  induction k with
  | nil => simp [AB]
  | cons x r ih => rw [show AB cells (x :: r) = cells x ++ AB cells r from rfl, List.length_append, hk, ih, List.length_cons, Nat.add_one_mul, Nat.add_comm]
 have sp : ∀ k : Nat, k ≤ l.length → AB cells l = AB cells (l.take k) ++ AB cells (l.drop k) := fun k _ => by
  conv => lhs; rw [← List.take_append_drop k l]
  rw [AT]
 have f1 : (AB cells (l.take i)).length = i * sz := by rw [fl, List.length_take, Nat.min_eq_left A0]
 have f2 : (AB cells (l.take (i + 1))).length = (i + 1) * sz := by rw [fl, List.length_take, Nat.min_eq_left A0]
 have hd : (cs.take (l.length * sz)).drop ((i + 1) * sz) = AB cells (l.drop (i + 1)) := by
  rw [ht, sp (i + 1) A0, List.drop_append_of_le_length A0, ← f2, List.drop_length, List.nil_append]
 have hti : cs.take (i * sz) = AB cells (l.take i) := by
  have : (cs.take (l.length * sz)).take (i * sz) = cs.take (i * sz) := by rw [List.take_take, Nat.min_eq_left A0]
  rw [← this, ht, sp i A0, List.take_append_of_le_length A0, ← f1, List.take_length]
 have f3 : (AB cells (l.drop (i + 1))).length = (l.length - (i + 1)) * sz := by rw [fl, List.length_drop]
 unfold YV
 rw [put, List.take_append_of_le_length (by rw [List.length_take, hp]; omega), List.take_take, Nat.min_self, put, hd, hti, List.eraseIdx_eq_take_drop_succ, AT, e2]
 rw [List.take_append, f1, List.take_of_length_le A0, show i * sz + (l.length - (i + 1)) * sz - i * sz = (l.length - (i + 1)) * sz by omega, List.take_append_of_le_length A0, ← f3, List.take_length]
theorem nL {α : Type} {cells : α → List Value} {w' : World} {zs : List Value} {l : List α} {i sz base g cap : Nat} {t : TypeId} {cur : List Value} (hk : ∀ x, (cells x).length = sz) (hb : Blk w' g t (YV cur zs l.length i sz)) (hg : base ≤ g) (hcap : l.length ≤ cap) (hm : cap ≤ maxLen) (hc : cur.length = cap * sz) (ht : cur.take (l.length * sz) = AB cells l) (hi : i < l.length) (hz : zs.length = sz) :
 w'.ownsRow base t sz (.slice (some ⟨g, 0, none⟩) (l.eraseIdx i).length cap) (l.eraseIdx i).length (AB cells (l.eraseIdx i)) := by
 have hle : l.length * sz ≤ cur.length := by rw [hc]; exact Nat.mul_le_mul_right _ hcap
 have hlen : (l.eraseIdx i).length = i + (l.length - (i + 1)) := by rw [List.length_eraseIdx_of_lt hi]; omega
 have htk := eF (zs := zs) hk ht hle hi hz
 have hdl := kW (zs := zs) hle hi hz
 rw [hlen]
 refine ⟨?_, .inr ⟨g, cap, (YV cur zs l.length i sz).toArray, rfl, hg, hb, by omega, hm, by simp [hdl, hc], by simpa using htk⟩⟩
 rw [← htk, List.length_take, hdl]
 refine Nat.min_eq_left (Nat.le_trans (Nat.mul_le_mul_right _ A0) hle)
end
structure Ar where
 flow : List UInt8
 order : Int
 rests : Int
 at_ : List UInt8
 stops : Bool
def Ar.cells (a : Ar) : List Value := [str a.flow, .int .i64 a.order, .int .i64 a.rests, str a.at_, .bool a.stops]
theorem Ar.len (a : Ar) : a.cells.length = 5 := rfl
theorem Ar.cells_one (a : Ar) : ∀ u ∈ a.cells, u.oneCell' = true := BG rfl
theorem Tk.cells_one (t : Tk) : ∀ u ∈ t.cells, u.oneCell' = true := BG rfl
theorem FJ : (prog.info? 56).map (fun i => (i.zero, i.size, i.bytes)) = some (some (.agg #[AA 0, str [], str [], AA 0, AA 0, str [], AA 0, .int .u8 0, AA 0]), 9, 96) := by kernel_rfl
theorem EB : (prog.info? 139).map (fun i => (i.zero, i.size, i.bytes)) = some (some (.agg #[str [], AA 0, AA 0, str [], .bool false]), 5, 56) := by kernel_rfl
theorem CG : (prog.info? 139).map (·.size) = some 5 := by kernel_rfl
theorem EV : (prog.info? 139).map (·.zero) = some (some (.agg #[str [], AA 0, AA 0, str [], .bool false])) := by kernel_rfl
theorem aR (A : Option Addr) (c : Nat) (l : List Ar) (w : World) (hl : l.length ≤ 1048576) (hR : Rd w A (l.length * 5) (AB Ar.cells l)) :
 Calls prog 97 #[.slice A l.length c] w fun e w' => ∃ A' c', e = .returned (.slice A' l.length c') ∧ w'.ownsRow w.heap.size 139 5 (.slice A' l.length c') l.length (AB Ar.cells l) ∧ Fr0 w w' := by
 refine BL func97 ntmps97 rfl fun M => srg (AG rfl (sx_seq (AC rfl (ya rfl (ND rfl rfl underlying135) (nq (AF rfl (fun h4 => ?_) (fun h4 => ?_)))))))
 ·refine AC rfl (gnr (qx_then_ret (gr1 rfl ?_)))
  obtain rfl := QB hR AU h4
  exact ⟨none, 0, rfl, World.ownsRow_nil _ _ _ _, M.fr⟩
 ·refine sx_skip (qx_seq (srg (sxl_does (some 5) (wn_none rfl) rfl rfl (fun ρ hρ => GH 135 139 5 rfl underlying135 CG) ?_)))
  rintro _ w1 ⟨g5, rfl, hg5, _, _, hfw1, ho5⟩
  have M := M.pushOwn hfw1 (Nat.le_refl _) (ho5 _ (Nat.le_refl _))
  exact yb rfl (DC (len' := l.length) (xs' := AB Ar.cells l) M 0 (wn_none rfl) rfl rfl rfl rfl rfl rfl (hR.fr0 M.fr) underlying135 EB rfl AU (D8 Ar.cells_one) (Nat.le_refl _) (Nat.le_refl _) CX (by unfold maxLen; first | omega | (simp only [List.length_append, List.length_cons, List.length_nil]; omega)) (by simp) (by first | exact (AT _ _ _).symm | simp [AB]) fun A7 c7 w2 M => yb rfl (gnr (gr1 rfl ⟨_, _, rfl, M.own 0 rfl, M.fr⟩)))
theorem oX (g n cap i : Nat) (cs : List Value) (w : World) (hb : Blk w g 139 cs) (hle : n * 5 ≤ cs.length) (h1 : ∀ u ∈ (cs.take (n * 5)).drop ((i + 1) * 5), u.oneCell' = true) (hi : i < n) (hn : n ≤ cap) (hm : cap ≤ maxLen) :
 Calls prog 200 #[.slice (some ⟨g, 0, none⟩) n cap, AA (i : Int), AA (((i + 1) : Nat) : Int)] w fun e w' => e = .returned (.slice (some ⟨g, 0, none⟩) (i + (n - (i + 1))) cap) ∧ Blk w' g 139 (YV cs [str [], AA 0, AA 0, str [], .bool false] n i 5) ∧ Fr (fun k => k = g) w w' := by
 have hmx : cap ≤ 9223372036854775807 := hm
 have hlq : i * 5 + ((cs.take (n * 5)).drop ((i + 1) * 5)).length ≤ cs.length := by rw [List.length_drop, List.length_take]; omega
 have hpl : (put cs (i * 5) ((cs.take (n * 5)).drop ((i + 1) * 5))).length = cs.length := K6 _ _ _ hlq
 refine sx_enter (vs := [_, _, _]) func200 rfl ntmps200 rfl ?_
 have M : Mem w (fun k => k = g) [As.blk g 139 cs] w := Mem.one hb
 refine srg (AG rfl (srg ?_))
 iterate 4 refine yb rfl ?_
 refine DP rfl rfl (ya rfl (tJ i (i + 1) n rfl rfl rfl rfl rfl (sl rfl) A0 A0 A0 A0) (nq (sx_seq (AC rfl (yb rfl (C7 rfl rfl (nq (AF rfl (fun h16 => ?_) (fun h16 => ?_)))))))))
 ·have h16p := (odt h16)
  refine AC rfl (yb rfl (gnr (qx_then_ret (gr1 rfl ?_))))
  exfalso; omega
 ·have h16p := (odf h16)
  refine sx_skip (qx_seq (AC rfl (DP rfl rfl (AG rfl (sx_seq (DL 6 CL gkr ?_))))))
  have M := M.drew
  refine sb rfl (sb rfl (sa rfl (sF i rfl rfl rfl (sl rfl) A0) (sb rfl (sb rfl (sa rfl (m2 (i + 1) rfl rfl rfl (sl rfl) A0) (CB (sxl_does (some 26) (wn_none rfl) rfl rfl (fun ρ hρ => YU (news := (cs.take (n * 5)).drop ((i + 1) * 5)) rfl underlying135 CG (hρ _ _ rfl) (M.blk 0 rfl) (hρ _ _ rfl) (nF (M.blk 0 rfl) hle A0 A0) h1 A0 hlq) ?_)))))))
  rintro _ w1 ⟨rfl, hbw1, hfw1⟩
  have M := M.putB 0 rfl hbw1 hfw1
  refine AG rfl (AC rfl (yb rfl (DP rfl rfl (yb rfl (ya rfl (sG (i + (n - (i + 1))) n rfl rfl rfl rfl (sl rfl) A0 A0) (sxl_does none (wn_none rfl) rfl rfl (fun ρ hρ => eE (zs := [str [], AA 0, AA 0, str [], .bool false]) rfl underlying135 EV rfl (hρ _ _ rfl) A0 (M.blk 0 rfl) (BG rfl) (by rw [hpl]; simp only [List.length_cons, List.length_nil]; omega)) ?_))))))
  rintro _ w2 ⟨hbw2, hfw2⟩
  rw [Nat.zero_add] at hbw2
  have M := M.putB 0 rfl hbw2 hfw2
  exact nq (AC rfl (yb rfl (gnr (gr1 rfl ⟨rfl, M.blk 0 rfl, M.fr⟩))))
theorem tD (base : Nat) (A : Option Addr) (c i : Nat) (l : List Ar) (w : World) (ho : w.ownsRow base 139 5 (.slice A l.length c) l.length (AB Ar.cells l)) (hi : i < l.length) :
 Calls prog 200 #[.slice A l.length c, AA (i : Int), AA (((i + 1) : Nat) : Int)] w fun e w' => e = .returned (.slice A (l.eraseIdx i).length c) ∧ w'.ownsRow base 139 5 (.slice A (l.eraseIdx i).length c) (l.eraseIdx i).length (AB Ar.cells (l.eraseIdx i)) ∧ Fr (fun k => k ∈ (Value.slice A l.length c).ownBlock.toList) w w' := by
 rcases ho.2 with ⟨_, h0⟩ | ⟨g, cap, cur, hv, hg, hb, hnc, hcm, hcs, ht⟩
 ·omega
 ·injection hv with e1 _ e3
  subst e1; subst e3
  have hlen : (l.eraseIdx i).length = i + (l.length - (i + 1)) := by rw [List.length_eraseIdx_of_lt hi]; omega
  have hcl : cur.toList.length = c * 5 := by rw [Array.length_toList, hcs]
  have hle : l.length * 5 ≤ cur.toList.length := by rw [hcl]; exact Nat.mul_le_mul_right _ hnc
  have hb' : Blk w g 139 cur.toList := by rw [Blk, Array.toArray_toList]; exact hb
  refine (oX g l.length c i cur.toList w hb' hle (fun u hu => ?_) hi hnc hcm).mono ?_
  ·rw [ht] at hu
   exact D8 Ar.cells_one u (List.mem_of_mem_drop hu)
  ·rintro e w' ⟨rfl, h2, h3⟩
   refine ⟨by rw [hlen], nL (fun x => rfl) h2 hg hnc hcm hcl ht hi rfl, h3.mono fun k _ hk => ?_⟩
   subst hk; simp [Value.ownBlock]
end Go.Proofs.YtaheakjfkpkefaaGreatDoor
