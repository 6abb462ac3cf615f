/- Contracts of a disk's Crash and Fuse. -/
import Derived.Test.YthdlljlcffokbaaDoorZb1
import Derived.Test.YthdlljlcffokbaaDoorProg
import Derived.WalkSpells
namespace Go.Proofs.YthdlljlcffokbaaDoor
open Go.RowKit

/-- A disk, plainly. -/
structure DS where
  lasts : List (List UInt8)
  shows : List (List UInt8)
  waits : List (Nat × List UInt8)
  done : Nat
  dead : Bool
  fset : Bool
  left : Nat
  keep : List Bool
  torn : Int
  cut : Nat
/-- Where it lies. -/
structure DL where
  gd : Nat
  vl : Value
  vs : Value
  vw : Value
  kA : Option Addr
  kc : Nat
def DL.blocks (L : DL) (b : Nat) : Prop := b = L.gd ∨ L.vl.ownBlock = some b ∨ L.vs.ownBlock = some b ∨ L.vw.ownBlock = some b

def boolsV (l : List Bool) : List Value := l.map Value.bool
def wcells (x : Nat × List UInt8) : List Value := .int .i64 (x.1 : Int) :: bvs x.2
def flatW (l : List (Nat × List UInt8)) : List Value := (l.map wcells).flatten
def DS.cells (s : DS) (L : DL) : List Value :=
  [L.vl, L.vs, L.vw, .int .i64 (s.done : Int), .bool s.dead, .bool s.fset, .int .i64 (s.left : Int), .slice L.kA s.keep.length L.kc, .int .i64 s.torn, .int .i64 (s.cut : Int)]

structure DS.Wf (s : DS) : Prop where
  pos : 1 ≤ s.lasts.length
  le : s.lasts.length ≤ 65536
  sl : s.shows.length = s.lasts.length
  al : All 128 s.lasts
  ash : All 128 s.shows
  aw : ∀ x ∈ s.waits, x.1 < s.lasts.length ∧ x.2.length = 128
  cut : s.cut ≤ 128
  lm : (s.left : Int) < 9223372036854775808

structure DkAt (w : World) (L : DL) (s : DS) : Prop where
  wf : s.Wf
  hd : Blk w L.gd 78 (s.cells L)
  hl : w.ownsRow 0 90 128 L.vl s.lasts.length (flatB s.lasts)
  hs : w.ownsRow 0 90 128 L.vs s.lasts.length (flatB s.shows)
  hw : w.ownsRow 0 107 129 L.vw s.waits.length (flatW s.waits)
  hk : Rd w L.kA s.keep.length (boolsV s.keep)
  ne : L.vl.ownBlock ≠ L.vs.ownBlock
  kn : 0 < s.keep.length → ∀ b off, L.kA = some ⟨b, off, none⟩ → ¬ L.blocks b

theorem ownN_fr {w w' : World} {S : Nat → Prop} {base size : Nat} {e : TypeId} {v : Value} {n : Nat} {xs : List Value} (h : w.ownsRow base e size v n xs) (hf : Fr S w w') (hn : ∀ k, v.ownBlock = some k → ¬ S k) :
    w'.ownsRow base e size v n xs := by
  refine ⟨h.1, ?_⟩
  rcases h.2 with hh | ⟨g, cap, cur, rfl, hb, hg, r⟩
  · exact .inl hh
  · exact .inr ⟨g, cap, cur, rfl, hb, (hf.block g (Array.getElem?_eq_some_iff.1 hg).1 (hn g rfl)).trans hg, r⟩
/-- A disk stands where none of its blocks is written. -/
theorem DkAt.fr {w w' : World} {L : DL} {s : DS} {S : Nat → Prop} (h : DkAt w L s) (hf : Fr S w w') (hn : ∀ b, L.blocks b → ¬ S b)
    (hk : 0 < s.keep.length → ∀ b off, L.kA = some ⟨b, off, none⟩ → ¬ S b) : DkAt w' L s where
  wf := h.wf
  hd := h.hd.fr hf (hn _ (.inl rfl))
  hl := ownN_fr h.hl hf (fun k hk => hn k (.inr (.inl hk)))
  hs := ownN_fr h.hs hf (fun k hk => hn k (.inr (.inr (.inl hk))))
  hw := ownN_fr h.hw hf (fun k hk => hn k (.inr (.inr (.inr hk))))
  hk := h.hk.fr hf hk
  ne := h.ne
  kn := h.kn
theorem DkAt.fr0 {w w' : World} {L : DL} {s : DS} (h : DkAt w L s) (hf : Fr0 w w') : DkAt w' L s := h.fr hf (fun _ _ hh => hh) (fun _ _ _ _ hh => hh)
theorem DkAt.lt {w : World} {L : DL} {s : DS} (h : DkAt w L s) {b : Nat} (hb : L.blocks b) : b < w.heap.size := by
  rcases hb with rfl | hb | hb | hb
  · exact h.hd.lt
  · exact (h.hl.lt b hb).2
  · exact (h.hs.lt b hb).2
  · exact (h.hw.lt b hb).2
/-- The row of a slice, as a block; elements of several cells. -/
theorem ownN_blk {w : World} {base size : Nat} {e : TypeId} {v : Value} {n : Nat} {xs : List Value} (h : w.ownsRow base e size v n xs) (hn : 0 < n) :
    ∃ g cap rest, v = .slice (some ⟨g, 0, none⟩) n cap ∧ base ≤ g ∧ n ≤ cap ∧ cap ≤ maxLen ∧ Blk w g e (xs ++ rest) ∧ (xs ++ rest).length = cap * size := by
  rcases h.2 with ⟨_, h0⟩ | ⟨g, cap, cur, rfl, hb, hg, hc, hm, hs, ht⟩
  · omega
  · have e : xs ++ cur.toList.drop (n * size) = cur.toList := by rw [← ht, List.take_append_drop]
    refine ⟨g, cap, cur.toList.drop (n * size), rfl, hb, hc, hm, ?_, ?_⟩
    · unfold Blk; rw [e]; simpa using hg
    · rw [e]; simpa using hs
theorem ownN_of_blk {w : World} {base size g cap n : Nat} {e : TypeId} {xs rest : List Value} (h : Blk w g e (xs ++ rest)) (hb : base ≤ g) (hc : n ≤ cap) (hm : cap ≤ maxLen) (hl : (xs ++ rest).length = cap * size) (hx : xs.length = n * size) :
    w.ownsRow base e size (.slice (some ⟨g, 0, none⟩) n cap) n xs :=
  ⟨hx, .inr ⟨g, cap, (xs ++ rest).toArray, rfl, hb, h, hc, hm, by simpa using hl, by simp only [← hx]; exact List.take_left⟩⟩
theorem ownN_form {w : World} {base size : Nat} {e : TypeId} {v : Value} {n : Nat} {xs : List Value} (h : w.ownsRow base e size v n xs) :
    ∃ A cap, v = .slice A n cap ∧ n ≤ cap ∧ Rd w A (n * size) xs ∧ (∀ b off, A = some ⟨b, off, none⟩ → base ≤ b ∧ off = 0) ∧ (0 < n → A ≠ none) := by
  rcases h.2 with ⟨rfl, h0⟩ | ⟨g, cap, cur, rfl, hb, hg, hc, hm, hs, ht⟩
  · subst h0
    have hx : xs = [] := List.eq_nil_of_length_eq_zero (by simpa using h.1)
    subst hx
    exact ⟨none, 0, rfl, Nat.le_refl _, by rw [Nat.zero_mul]; exact Rd.nil, by simp, by omega⟩
  · refine ⟨some ⟨g, 0, none⟩, cap, rfl, hc, ⟨h.1, fun _ => ⟨g, 0, rfl, fun j u hu => ?_⟩⟩, ?_, by simp⟩
    · have := h.cells (g := g) rfl j u hu
      rwa [Addr.add_mid] at this
    · intro b off e; injection e with e; injection e with e1 e2 _; subst e1; exact ⟨hb, e2.symm⟩
end Go.Proofs.YthdlljlcffokbaaDoor
namespace Go.Proofs.YthdlljlcffokbaaDoor
open Go.RowKit

/-- From here on the order 'l' stands for every order. -/
def SeqOk (P : Program) (ops : Array Oper) (Q : Exit → Act → World → Prop) (S : World → Prop) (n : Nat) (listed : Array Bool) (a : Act) (w : World) : Prop := wpAnyH P .any ops Q S n listed a w

section
variable {P : Program} {ops : Array Oper} {Q : Exit → Act → World → Prop} {S : World → Prop}
theorem wp_region_ok {id : Nat} {l : List Oper} {a : Act} {w : World} (S : World → Prop) (hm : P.follows .mixedOrders = true) (h : SeqOk P l.toArray Q S l.length (Array.replicate l.length false) a w.drew) : (Code.region id l.toArray true).wp P Q a w := by
  refine wp_region_any hm (wpAny_of_held (S := S) _ _ _ _ ?_)
  simpa [SeqOk] using h
/-- An operation that yields one value in every world that S lets in. -/
theorem ok_take {n : Nat} {listed : Array Bool} {a : Act} {w : World} {o : Oper} (i : Nat) (d : Option Tmp) (v : Value) (hs : Region.noSelect ops = true) (hQ : ∀ c (a : Act) t v w, Q (.panic c) (a.put t v) w → Q (.panic c) a w)
    (hf : Region.free .any ops listed i = true) (hr : (Region.ready .any ops listed).contains i = true) (ho : ops[i]? = some o)
    (hd : o.dst = d) (hw : Region.wanted o (yielded ops a.tmps) = true) (hy : ∀ w, S w → (execOp a.eval o).run P w = .ok (.value v) w) (hS : S w)
    (h : SeqOk P ops Q S n (listed.setIfInBounds i true) (a.put d v) w) : SeqOk P ops Q S (n + 1) listed a w :=
  wpAnyH_first ho (Region.noSelect_spec hs) (fun c a w => hQ c a _ _ w) n listed a w (Region.free_spec ho hf) (by simpa using hr) (.inl ⟨hw, hy⟩) hS (by rw [hd]; exact h)
/-- The only operation that may come up. -/
theorem ok_does {n : Nat} {listed : Array Bool} {a : Act} {w : World} {R : Value → World → Prop} {o : Oper} (i : Nat) (d : Option Tmp) (hr : Region.ready .any ops listed = [i]) (ho : ops[i]? = some o)
    (hdst : o.dst = d) (hw : Region.wanted o (yielded ops a.tmps) = true) (hd : Does P a.eval o w R)
    (h : ∀ v w', R v w' → S w' ∧ SeqOk P ops Q S n (listed.setIfInBounds i true) (a.put d v) w') : SeqOk P ops Q S (n + 1) listed a w := by
  refine ⟨fun h0 => (by rw [hr] at h0; cases h0), fun j hj => ?_⟩
  rw [hr] at hj
  obtain rfl : j = i := by simpa using hj
  unfold wpOp
  simp only [ho, hw, if_true]
  refine .inl (hd.wp ?_)
  rw [hdst]
  exact h
/-- .. a call. -/
theorem ok_call {n : Nat} {listed : Array Bool} {a : Act} {w : World} {f : FuncId} {args : Array Value} {R : Ending → World → Prop} {o : Oper} (i : Nat) (d : Option Tmp) (hr : Region.ready .any ops listed = [i]) (ho : ops[i]? = some o)
    (hdst : o.dst = d) (hw : Region.wanted o (yielded ops a.tmps) = true) (hx : (execOp a.eval o).run P w = .ok (.enter f args) w) (hc : Calls P f args w R)
    (h : ∀ e w', R e w' → ∃ v, e = .returned v ∧ S w' ∧ SeqOk P ops Q S n (listed.setIfInBounds i true) (a.put d v) w') : SeqOk P ops Q S (n + 1) listed a w := by
  refine ⟨fun h0 => (by rw [hr] at h0; cases h0), fun j hj => ?_⟩
  rw [hr] at hj
  obtain rfl : j = i := by simpa using hj
  unfold wpOp
  simp only [ho, hw, if_true]
  refine .inl ?_
  unfold Oper.wp
  rw [hx]
  refine hc.mono fun e w' hR => ?_
  obtain ⟨v, rfl, h1, h2⟩ := h e w' hR
  rw [← hdst] at h2
  exact ⟨h1, h2⟩
/-- Two operations, either may come up. -/
theorem ok_two {n : Nat} {listed : Array Bool} {a : Act} {w : World} (i j : Nat) (hr : Region.ready .any ops listed = [i, j])
    (hi : wpOp P ops Q i (fun a' w' => S w' ∧ SeqOk P ops Q S n (listed.setIfInBounds i true) a' w') a w)
    (hj : wpOp P ops Q j (fun a' w' => S w' ∧ SeqOk P ops Q S n (listed.setIfInBounds j true) a' w') a w) : SeqOk P ops Q S (n + 1) listed a w := by
  refine ⟨fun h0 => (by rw [hr] at h0; cases h0), fun k hk => ?_⟩
  rw [hr] at hk
  rcases List.mem_cons.1 hk with rfl | hk
  · exact hi
  · obtain rfl : k = j := by simpa using hk
    exact hj
theorem op_does {a : Act} {w : World} {K : Act → World → Prop} {R : Value → World → Prop} {o : Oper} {i : Nat} (d : Option Tmp) (ho : ops[i]? = some o)
    (hdst : o.dst = d) (hw : Region.wanted o (yielded ops a.tmps) = true) (hd : Does P a.eval o w R) (h : ∀ v w', R v w' → K (a.put d v) w') : wpOp P ops Q i K a w := by
  unfold wpOp
  simp only [ho, hw, if_true]
  refine .inl (hd.wp ?_)
  rw [hdst]
  exact h
theorem put_swap (a : Act) {x y : Tmp} (hne : x ≠ y) (u v : Value) : (a.put (some x) u).put (some y) v = (a.put (some y) v).put (some x) u :=
  Act.put_comm a u v (fun d hd he => hne (by injection hd with hd; injection he with he; rw [hd, he]))
/-- Two operations that may come up in either order and come to the same, T: one walk behind them. -/
theorem ok_pair {n : Nat} {listed : Array Bool} {a : Act} {w : World} {oi oj : Oper} (i j : Nat) (di dj : Tmp) (hr : Region.ready .any ops listed = [i, j])
    (hri : Region.ready .any ops (listed.setIfInBounds i true) = [j]) (hrj : Region.ready .any ops (listed.setIfInBounds j true) = [i]) (hij : i ≠ j) (hne : di ≠ dj)
    (hoi : ops[i]? = some oi) (hoj : ops[j]? = some oj) (hdi : oi.dst = some di) (hdj : oj.dst = some dj) (hgi : oi.guard = none) (hgj : oj.guard = none)
    (T : Value → Value → World → Prop) (R1 R2 : Value → World → Prop)
    (h1 : Does P a.eval oi w R1) (h12 : ∀ v w', R1 v w' → S w' ∧ Does P (a.put (some di) v).eval oj w' (fun u w'' => T v u w''))
    (h2 : Does P a.eval oj w R2) (h21 : ∀ u w', R2 u w' → S w' ∧ Does P (a.put (some dj) u).eval oi w' (fun v w'' => T v u w''))
    (tail : ∀ v u w', T v u w' → S w' ∧ SeqOk P ops Q S n ((listed.setIfInBounds i true).setIfInBounds j true) ((a.put (some di) v).put (some dj) u) w') : SeqOk P ops Q S (n + 1 + 1) listed a w := by
  have wi : ∀ a : Act, Region.wanted oi (yielded ops a.tmps) = true := fun a => by simp [Region.wanted, hgi]
  have wj : ∀ a : Act, Region.wanted oj (yielded ops a.tmps) = true := fun a => by simp [Region.wanted, hgj]
  refine ok_two i j hr ?_ ?_
  · refine op_does (some di) hoi hdi (wi _) h1 fun v w' hR => ⟨(h12 v w' hR).1, ?_⟩
    exact ok_does j (some dj) hri hoj hdj (wj _) (h12 v w' hR).2 fun u w'' hT => tail v u w'' hT
  · refine op_does (some dj) hoj hdj (wj _) h2 fun u w' hR => ⟨(h21 u w' hR).1, ?_⟩
    refine ok_does i (some di) hrj hoi hdi (wi _) (h21 u w' hR).2 fun v w'' hT => ?_
    rw [put_swap a (fun h => hne h.symm) u v, Array.setIfInBounds_comm _ _ (fun h => hij h.symm)]
    exact tail v u w'' hT
theorem ok_done {n : Nat} {listed : Array Bool} {a : Act} {w : World} (hr : Region.ready .any ops listed = []) (h : Q .normal a w) : SeqOk P ops Q S n listed a w := wpAnyH_done hr h n
end
end Go.Proofs.YthdlljlcffokbaaDoor
namespace Go.Proofs.YthdlljlcffokbaaDoor
open Go.RowKit

def zsec : List UInt8 := List.replicate 128 0
def newDS (n : Nat) : DS := { lasts := List.replicate n zsec, shows := List.replicate n zsec, waits := [], done := 0, dead := false, fset := false, left := 0, keep := [], torn := 0, cut := 0 }
theorem sec_info : (Tryd.prog.info? 90).map (fun i => (i.zero, i.size, i.bytes)) = some (some (.agg (bvs zsec).toArray), 128, 128) := by kernel_rfl

theorem zsec_length : zsec.length = 128 := List.length_replicate
theorem zsec_bvs : bvs zsec = List.replicate 128 (.int .u8 0) := by unfold bvs zsec; rw [List.map_replicate]; rfl
theorem flatten_zero (n : Nat) : (List.replicate n zsec).flatten = List.replicate (n * 128) 0 := by
  induction n with
  | zero => simp
  | succ n ih => rw [List.replicate_succ, List.flatten_cons, ih]; unfold zsec; rw [List.replicate_append_replicate]; congr 1; omega
theorem made_sec (n : Nat) : (madeCells (bvs zsec).toArray (n * 128)).toList = flatB (List.replicate n zsec) := by
  unfold flatB
  rw [flatten_zero]
  have e : bvs (List.replicate (n * 128) 0) = List.replicate (n * 128) (.int .u8 0) := by unfold bvs; rw [List.map_replicate]; rfl
  rw [e]
  apply List.eq_replicate_iff.2
  refine ⟨by rw [Array.length_toList, size_madeCells], fun b hb => ?_⟩
  unfold madeCells at hb
  rw [Array.toList_map] at hb
  obtain ⟨i, _, rfl⟩ := List.mem_map.1 hb
  have hs : (bvs zsec).toArray.size = 128 := by rw [List.size_toArray, bvs_length, zsec_length]
  have hlt : i % (bvs zsec).toArray.size < (bvs zsec).toArray.size := by rw [hs]; omega
  rw [getElem!_pos (bvs zsec).toArray _ hlt]
  have hm : (bvs zsec).toArray[i % (bvs zsec).toArray.size] ∈ bvs zsec := by
    rw [List.getElem_toArray]; exact List.getElem_mem _
  have hall : ∀ x ∈ bvs zsec, x = .int .u8 0 := by rw [zsec_bvs]; intro x hx; exact List.eq_of_mem_replicate hx
  exact hall _ hm
theorem newDS_wf (n : Nat) (h1 : 1 ≤ n) (h2 : n ≤ 65536) : (newDS n).Wf where
  pos := by simpa [newDS] using h1
  le := by simpa [newDS] using h2
  sl := by simp [newDS]
  al := All.replicate zsec_length
  ash := All.replicate zsec_length
  aw := by simp [newDS]
  cut := Nat.zero_le _
  lm := by simp [newDS]

theorem own_zero (w : World) (g n : Nat) (h2 : n ≤ 65536) (h : Blk w g 90 (flatB (List.replicate n zsec))) : w.ownsRow 0 90 128 (.slice (some ⟨g, 0, none⟩) n n) n (flatB (List.replicate n zsec)) := by
  have hlen : (flatB (List.replicate n zsec)).length = n * 128 := by rw [flatB_length (All.replicate zsec_length), List.length_replicate]
  exact ownN_of_blk (rest := []) (by rw [List.append_nil]; exact h) (Nat.zero_le _) (Nat.le_refl _) (by unfold maxLen; omega) (by rw [List.append_nil, hlen]) hlen
theorem new_at (w : World) (gd g1 g2 n : Nat) (h1 : 1 ≤ n) (h2 : n ≤ 65536) (hne : g1 ≠ g2)
    (hb : Blk w gd 78 [.slice (some ⟨g1, 0, none⟩) n n, .slice (some ⟨g2, 0, none⟩) n n, .slice none 0 0, .int .i64 0, .bool false, .bool false, .int .i64 0, .slice none 0 0, .int .i64 0, .int .i64 0])
    (hb1 : Blk w g1 90 (flatB (List.replicate n zsec))) (hb2 : Blk w g2 90 (flatB (List.replicate n zsec))) :
    DkAt w ⟨gd, .slice (some ⟨g1, 0, none⟩) n n, .slice (some ⟨g2, 0, none⟩) n n, .slice none 0 0, none, 0⟩ (newDS n) where
  wf := newDS_wf n h1 h2
  hd := hb
  hl := by
    show w.ownsRow 0 90 128 (.slice (some ⟨g1, 0, none⟩) n n) (List.replicate n zsec).length (flatB (List.replicate n zsec))
    rw [List.length_replicate]; exact own_zero w g1 n h2 hb1
  hs := by
    show w.ownsRow 0 90 128 (.slice (some ⟨g2, 0, none⟩) n n) (List.replicate n zsec).length (flatB (List.replicate n zsec))
    rw [List.length_replicate]; exact own_zero w g2 n h2 hb2
  hw := World.ownsRow_nil _ _ _ _
  hk := Rd.nil
  ne := by simpa [Value.ownBlock] using hne
  kn := fun h => absurd h (by simp [newDS])

set_option maxRecDepth 100000 in
set_option maxHeartbeats 1000000 in
theorem new_ok (n : Nat) (w : World) (h1 : 1 ≤ n) (h2 : n ≤ 65536) :
    Calls Tryd.prog 7 #[.int .i64 (n : Int)] w fun e w' => ∃ L, e = .returned (.tuple #[.pointer (some ⟨L.gd, 0, none⟩), .int .i64 0]) ∧ DkAt w' L (newDS n) ∧ (∀ b, L.blocks b → w.heap.size ≤ b) ∧ Fr0 w w' := by
  go_enter Tryd.func7, Tryd.ntmps7
  go_wp2_with fail
  refine wp_region_ok (fun _ => True) (by kernel_rfl) ?_
  refine ok_take 0 (some 10) (.int .i64 (n : Int)) (by kernel_rfl) (fun c a t v w h => by cases t <;> exact h) (by kernel_rfl) (by kernel_rfl) rfl rfl rfl (fun _ _ => rfl) trivial ?_
  refine ok_take 2 (some 12) (.int .i64 (n : Int)) (by kernel_rfl) (fun c a t v w h => by cases t <;> exact h) (by kernel_rfl) (by kernel_rfl) rfl rfl rfl (fun _ _ => rfl) trivial ?_
  have mk := fun (W : World) (ρ : Operand → Value) (o : Oper) (l c : Operand) (ho : o.op = .makeSlice 73 l c) (hl : ρ l = .int .i64 (n : Int)) (hc : ρ c = .int .i64 (n : Int)) =>
    does_make (w := W) 73 l c ho 90 _ 128 128 n Tryd.underlying73 sec_info hl hc (by omega) (by omega)
  refine ok_pair 1 3 11 13 (by kernel_rfl) (by kernel_rfl) (by kernel_rfl) (by decide) (by decide) rfl rfl rfl rfl rfl rfl
    (fun v u w' => ∃ g1 g2, v = .slice (some ⟨g1, 0, none⟩) n n ∧ u = .slice (some ⟨g2, 0, none⟩) n n ∧ w.heap.size ≤ g1 ∧ w.heap.size ≤ g2 ∧ g1 ≠ g2 ∧ Blk w' g1 90 (flatB (List.replicate n zsec)) ∧ Blk w' g2 90 (flatB (List.replicate n zsec)) ∧ Fr0 w w')
    _ _ (mk _ _ _ (.tmp 10) (.tmp 10) rfl rfl rfl) (fun v w1 ⟨g1, hv, ha, hb, hc, hd⟩ => ⟨trivial, (mk w1 _ _ (.tmp 12) (.tmp 12) rfl rfl rfl).mono fun u w2 ⟨g2, hu, ha2, hb2, hc2, hd2⟩ => ?_⟩)
    (mk _ _ _ (.tmp 12) (.tmp 12) rfl rfl rfl) (fun v w1 ⟨g1, hv, ha, hb, hc, hd⟩ => ⟨trivial, (mk w1 _ _ (.tmp 10) (.tmp 10) rfl rfl rfl).mono fun u w2 ⟨g2, hu, ha2, hb2, hc2, hd2⟩ => ?_⟩) ?_
  · have hz := hd.size
    simp only [Value.cells, made_sec] at hc hc2
    exact ⟨g1, g2, hv, hu, ha, Nat.le_trans (by simpa using hz) ha2, by omega, hc.fr0 hd2, hc2, (Fr.refl.drew).then0 (hd.then0 hd2)⟩
  · have hz := hd.size
    simp only [Value.cells, made_sec] at hc hc2
    exact ⟨g2, g1, hu, hv, Nat.le_trans (by simpa using hz) ha2, ha, by omega, hc2, hc.fr0 hd2, (Fr.refl.drew).then0 (hd.then0 hd2)⟩
  rintro _ _ w1 ⟨g1, g2, rfl, rfl, ha1, ha2, hne, hb1, hb2, hf⟩
  refine ⟨trivial, ?_⟩
  have HB1 := Lib.hid hb1; have HB2 := Lib.hid hb2; have HF := Lib.hid hf
  clear hb1 hb2 hf
  refine ok_take 4 (some 14) (.agg #[.slice (some ⟨g1, 0, none⟩) n n, .slice (some ⟨g2, 0, none⟩) n n, .slice none 0 0, .int .i64 0, .bool false, .bool false, .int .i64 0, .slice none 0 0, .int .i64 0, .int .i64 0]) (by kernel_rfl) (fun c a t v w h => by cases t <;> exact h) (by kernel_rfl) (by kernel_rfl) rfl rfl rfl (fun _ _ => by kernel_rfl) trivial ?_
  refine ok_does 5 (some 15) (by kernel_rfl) rfl rfl rfl (does_box 78 (.tmp 14) rfl [.slice (some ⟨g1, 0, none⟩) n n, .slice (some ⟨g2, 0, none⟩) n n, .slice none 0 0, .int .i64 0, .bool false, .bool false, .int .i64 0, .slice none 0 0, .int .i64 0, .int .i64 0] rfl) ?_
  rintro _ w2 ⟨gd, rfl, hgd, hgd', hb, hf⟩
  refine ⟨trivial, ?_⟩
  refine ok_take 6 (some 2) (.pointer (some ⟨gd, 0, none⟩)) (by kernel_rfl) (fun c a t v w h => by cases t <;> exact h) (by kernel_rfl) (by kernel_rfl) rfl rfl rfl (fun _ _ => rfl) trivial ?_
  refine ok_take 7 (some 3) (.int .i64 0) (by kernel_rfl) (fun c a t v w h => by cases t <;> exact h) (by kernel_rfl) (by kernel_rfl) rfl rfl rfl (fun _ _ => rfl) trivial ?_
  refine ok_done (by kernel_rfl) ?_
  have hl1 := HB1.out.lt
  have hl2 := HB2.out.lt
  have hz := HF.out.size
  have HD := Lib.hid (new_at w2 gd g1 g2 n h1 h2 hne hb (HB1.out.fr0 hf) (HB2.out.fr0 hf))
  have HT := Lib.hid (HF.out.then0 hf)
  clear hb hf
  go_frame
  go_wp2
  go_ret2
  refine ⟨_, rfl, HD.out, ?_, HT.out⟩
  rintro b (h | h | h | h)
  · have h : b = gd := h
    omega
  · simp [Value.ownBlock] at h; omega
  · simp [Value.ownBlock] at h; omega
  · simp [Value.ownBlock] at h
end Go.Proofs.YthdlljlcffokbaaDoor
namespace Go.Proofs.YthdlljlcffokbaaDoor
open Go.RowKit

section
variable {w : World} {L : DL} {s : DS}
theorem DkAt.c0 (h : DkAt w L s) : w.cell? ⟨L.gd, 0, none⟩ = some L.vl := (h.hd.cell 0).trans rfl
theorem DkAt.c1 (h : DkAt w L s) : w.cell? ⟨L.gd, 1, none⟩ = some L.vs := (h.hd.cell 1).trans rfl
theorem DkAt.c2 (h : DkAt w L s) : w.cell? ⟨L.gd, 2, none⟩ = some L.vw := (h.hd.cell 2).trans rfl
theorem DkAt.c3 (h : DkAt w L s) : w.cell? ⟨L.gd, 3, none⟩ = some (.int .i64 (s.done : Int)) := (h.hd.cell 3).trans rfl
theorem DkAt.c4 (h : DkAt w L s) : w.cell? ⟨L.gd, 4, none⟩ = some (.bool s.dead) := (h.hd.cell 4).trans rfl
theorem DkAt.c5 (h : DkAt w L s) : w.cell? ⟨L.gd, 5, none⟩ = some (.bool s.fset) := (h.hd.cell 5).trans rfl
theorem DkAt.c6 (h : DkAt w L s) : w.cell? ⟨L.gd, 6, none⟩ = some (.int .i64 (s.left : Int)) := (h.hd.cell 6).trans rfl
end

theorem alive_any (w : World) (g : Nat) (d : Bool) (hc : w.cell? ⟨g, 4, none⟩ = some (.bool d)) :
    Calls Tryd.prog 34 #[.pointer (some ⟨g, 0, none⟩)] w fun e w' => e = .returned (.int .i64 (if d then 20 else 0)) ∧ w = w' := by
  cases d
  · go_enter Tryd.func34, Tryd.ntmps34
    go_wp2
    go_ret
    exact ⟨rfl, rfl⟩
  · go_enter Tryd.func34, Tryd.ntmps34
    go_wp2
    go_ret
    exact ⟨rfl, rfl⟩
theorem dead_any (w : World) (g : Nat) (d : Bool) (hc : w.cell? ⟨g, 4, none⟩ = some (.bool d)) :
    Calls Tryd.prog 10 #[.pointer (some ⟨g, 0, none⟩)] w fun e w' => e = .returned (.bool d) ∧ w = w' := by
  go_enter Tryd.func10, Tryd.ntmps10
  go_wp2
  go_ret
  exact ⟨rfl, rfl⟩
theorem len_any (w : World) (g : Nat) (A : Option Addr) (n c : Nat) (hc : w.cell? ⟨g, 0, none⟩ = some (.slice A n c)) :
    Calls Tryd.prog 56 #[.pointer (some ⟨g, 0, none⟩)] w fun e w' => e = .returned (.int .i64 (n : Int)) ∧ w = w' := by
  go_enter Tryd.func56, Tryd.ntmps56
  go_wp2
  go_ret
  exact ⟨rfl, rfl⟩
theorem waits_any (w : World) (g : Nat) (A : Option Addr) (n c : Nat) (hc : w.cell? ⟨g, 2, none⟩ = some (.slice A n c)) :
    Calls Tryd.prog 27 #[.pointer (some ⟨g, 0, none⟩)] w fun e w' => e = .returned (.int .i64 (n : Int)) ∧ w = w' := by
  go_enter Tryd.func27, Tryd.ntmps27
  go_wp2
  go_ret
  exact ⟨rfl, rfl⟩
end Go.Proofs.YthdlljlcffokbaaDoor
namespace Go.Proofs.YthdlljlcffokbaaDoor
open Go.RowKit

theorem info_byte : (Tryd.prog.info? 5).map (fun i => (i.zero, i.size, i.bytes)) = some (some (.int .u8 0), 1, 1) := by kernel_rfl
theorem info_bool : (Tryd.prog.info? 4).map (fun i => (i.zero, i.size, i.bytes)) = some (some (.bool false), 1, 1) := by kernel_rfl
theorem write_info : (Tryd.prog.info? 107).map (fun i => (i.zero, i.size, i.bytes)) = some (some (.agg (wcells (0, zsec)).toArray), 129, 136) := by kernel_rfl
theorem size_byte : (Tryd.prog.info? 5).map (·.size) = some 1 := by kernel_rfl
theorem size_sec : (Tryd.prog.info? 90).map (·.size) = some 128 := by kernel_rfl

set_option maxHeartbeats 400000 in
theorem cloneB (A : Option Addr) (len cap : Nat) (xs : List Value) (w : World) (hm : len ≤ 1073741824) (hr : Rd w A (len * 1) xs) (h1 : ∀ u ∈ xs, u.oneCell' = true) (hN : A = none → cap = 0) :
    Calls Tryd.prog 68 #[.slice A len cap] w fun e w' => ∃ v, e = .returned v ∧ w'.ownsRow w.heap.size 5 1 v len xs ∧ Fr0 w w' := by
  have HR := Lib.hid hr
  have HN := Lib.hid hN
  have H1 := Lib.hid h1
  clear hr hN h1
  have hnil := fun (W : World) (a : Option Addr) (n c : Nat) => Lib.run_eql_slice_nil (P := Tryd.prog) W 39 5 a n c 0 0 Tryd.underlying39
  cases A with
  | none =>
    obtain rfl : cap = 0 := HN.out rfl
    have h0 : len = 0 := by
      rcases Nat.eq_zero_or_pos len with h | h
      · exact h
      · obtain ⟨_, _, e, _⟩ := HR.out.2 (by omega); cases e
    subst h0
    go_enter Tryd.func68, Tryd.ntmps68
    go_wp2
    go_ret
    have hx : xs = [] := List.eq_nil_of_length_eq_zero (by rw [HR.out.1, Nat.zero_mul])
    subst hx
    exact ⟨_, rfl, World.ownsRow_nil w _ _ _, Fr.refl⟩
  | some a =>
    go_enter Tryd.func68, Tryd.ntmps68
    go_wp2_with (first
      | (at_builtin
         refine Does.list rfl (does_appendN (.tmp 5) (.tmp 6) 39 rfl w.heap.size 5 _ 1 1 Tryd.underlying39 info_byte (by kernel_rfl) (by omega) _ 0 [] rfl (ownN_new0 w 5 1) (some a) len cap xs rfl (HR.out.fr0 (Fr.refl.alloc _)) H1.out (by unfold maxLen; omega) (by omega) (by simp)) ?_
         rintro v w1 ⟨ho, hg, _⟩
         have HO := Lib.hid ho
         have HF := Lib.hid (Fr.appN (S := Nowhere) (Fr.refl.alloc _) (ownN_new0 w 5 1) (Nat.le_refl _) hg)
         clear ho hg)
      | fail)
    go_ret
    exact ⟨v, rfl, by simpa using HO.out, HF.out⟩

set_option maxHeartbeats 400000 in
theorem cloneBool (A : Option Addr) (len cap : Nat) (xs : List Value) (w : World) (hm : len ≤ 140737488351232) (hr : Rd w A (len * 1) xs) (h1 : ∀ u ∈ xs, u.oneCell' = true) (hN : A = none → cap = 0) :
    Calls Tryd.prog 36 #[.slice A len cap] w fun e w' => ∃ v, e = .returned v ∧ w'.ownsRow w.heap.size 4 1 v len xs ∧ Fr0 w w' := by
  have HR := Lib.hid hr
  have HN := Lib.hid hN
  have H1 := Lib.hid h1
  clear hr hN h1
  have hnil := fun (W : World) (a : Option Addr) (n c : Nat) => Lib.run_eql_slice_nil (P := Tryd.prog) W 23 4 a n c 0 0 Tryd.underlying23
  cases A with
  | none =>
    obtain rfl : cap = 0 := HN.out rfl
    have h0 : len = 0 := by
      rcases Nat.eq_zero_or_pos len with h | h
      · exact h
      · obtain ⟨_, _, e, _⟩ := HR.out.2 (by omega); cases e
    subst h0
    go_enter Tryd.func36, Tryd.ntmps36
    go_wp2
    go_ret
    have hx : xs = [] := List.eq_nil_of_length_eq_zero (by rw [HR.out.1, Nat.zero_mul])
    subst hx
    exact ⟨_, rfl, World.ownsRow_nil w _ _ _, Fr.refl⟩
  | some a =>
    go_enter Tryd.func36, Tryd.ntmps36
    go_wp2_with (first
      | (at_builtin
         refine Does.list rfl (does_appendN (.tmp 5) (.tmp 6) 23 rfl w.heap.size 4 _ 1 1 Tryd.underlying23 info_bool (by kernel_rfl) (by omega) _ 0 [] rfl (ownN_new0 w 4 1) (some a) len cap xs rfl (HR.out.fr0 (Fr.refl.alloc _)) H1.out (by unfold maxLen; omega) (by omega) (by simp)) ?_
         rintro v w1 ⟨ho, hg, _⟩
         have HO := Lib.hid ho
         have HF := Lib.hid (Fr.appN (S := Nowhere) (Fr.refl.alloc _) (ownN_new0 w 4 1) (Nat.le_refl _) hg)
         clear ho hg)
      | fail)
    go_ret
    exact ⟨v, rfl, by simpa using HO.out, HF.out⟩

set_option maxHeartbeats 400000 in
theorem cloneSec (A : Option Addr) (len cap : Nat) (xs : List Value) (w : World) (hm : len ≤ 1073741824) (hr : Rd w A (len * 128) xs) (h1 : ∀ u ∈ xs, u.oneCell' = true) (hN : A = none → cap = 0) :
    Calls Tryd.prog 42 #[.slice A len cap] w fun e w' => ∃ v, e = .returned v ∧ w'.ownsRow w.heap.size 90 128 v len xs ∧ Fr0 w w' := by
  have HR := Lib.hid hr
  have HN := Lib.hid hN
  have H1 := Lib.hid h1
  clear hr hN h1
  have hnil := fun (W : World) (a : Option Addr) (n c : Nat) => Lib.run_eql_slice_nil (P := Tryd.prog) W 73 90 a n c 0 0 Tryd.underlying73
  cases A with
  | none =>
    obtain rfl : cap = 0 := HN.out rfl
    have h0 : len = 0 := by
      rcases Nat.eq_zero_or_pos len with h | h
      · exact h
      · obtain ⟨_, _, e, _⟩ := HR.out.2 (by omega); cases e
    subst h0
    go_enter Tryd.func42, Tryd.ntmps42
    go_wp2
    go_ret
    have hx : xs = [] := List.eq_nil_of_length_eq_zero (by rw [HR.out.1, Nat.zero_mul])
    subst hx
    exact ⟨_, rfl, World.ownsRow_nil w _ _ _, Fr.refl⟩
  | some a =>
    go_enter Tryd.func42, Tryd.ntmps42
    go_wp2_with (first
      | (at_builtin
         refine Does.list rfl (does_appendN (.tmp 5) (.tmp 6) 73 rfl w.heap.size 90 _ 128 128 Tryd.underlying73 sec_info (by kernel_rfl) (by omega) _ 0 [] rfl (ownN_new0 w 90 128) (some a) len cap xs rfl (HR.out.fr0 (Fr.refl.alloc _)) H1.out (by unfold maxLen; omega) (by omega) (by simp)) ?_
         rintro v w1 ⟨ho, hg, _⟩
         have HO := Lib.hid ho
         have HF := Lib.hid (Fr.appN (S := Nowhere) (Fr.refl.alloc _) (ownN_new0 w 90 128) (Nat.le_refl _) hg)
         clear ho hg)
      | fail)
    go_ret
    exact ⟨v, rfl, by simpa using HO.out, HF.out⟩

end Go.Proofs.YthdlljlcffokbaaDoor
namespace Go.Proofs.YthdlljlcffokbaaDoor
open Go.RowKit

set_option maxHeartbeats 1000000 in
theorem read_ok (i : Nat) (w : World) (L : DL) (s : DS) (b : List UInt8) (hd : DkAt w L s) (ha : s.dead = false) (hb : s.shows[i]? = some b) :
    Calls Tryd.prog 63 #[.pointer (some ⟨L.gd, 0, none⟩), .int .i64 (i : Int)] w fun e w' => (∃ v, e = .returned (.tuple #[v, .int .i64 0]) ∧ w'.ownsRow w.heap.size 5 1 v 128 (bvs b)) ∧ Fr0 w w' := by
  have hi : i < s.lasts.length := by rw [← hd.wf.sl]; exact (List.getElem?_eq_some_iff.1 hb).1
  have hn := hd.wf.le
  obtain ⟨gl, cl, _, evl, _⟩ := ownN_blk hd.hl (by omega)
  obtain ⟨gs, cs, rest, evs, _, hc2, _, hbs, hls⟩ := ownN_blk hd.hs (by omega)
  have hc0 := hd.c0
  have hc1 := hd.c1
  have hc4 := hd.c4
  rw [evl] at hc0
  rw [evs] at hc1
  rw [ha] at hc4
  have hfl := flatB_length hd.wf.ash
  rw [hd.wf.sl] at hfl
  have HR := Lib.hid (show Rd w (some ⟨gs, i * 128, none⟩) 128 (bvs b) from by
    have h := Rd.of_blk hbs (i * 128) (n := 128) (by rw [List.length_append, hfl]; have : (i + 1) * 128 ≤ s.lasts.length * 128 := Nat.mul_le_mul_right _ hi; omega)
    rwa [List.drop_append_of_le_length (by rw [hfl]; exact Nat.mul_le_mul_right _ (by omega)), List.take_append_of_le_length (by rw [List.length_drop, hfl]; have : (i + 1) * 128 ≤ s.lasts.length * 128 := Nat.mul_le_mul_right _ hi; omega), flatB_at hd.wf.ash hb] at h)
  generalize s.lasts.length = n at *
  generalize L.gd = gd at *
  clear evl evs hbs hls hfl hb hd ha
  go_enter Tryd.func63, Tryd.ntmps63
  go_wp2_with fail
  refine (alive_any _ _ false hc4).mono ?_
  rintro e _ ⟨rfl, rfl⟩
  go_wp2_with fail
  refine (cloneB (some ⟨gs, i * 128, none⟩) 128 128 (bvs b) _ (by omega) HR.out (bvs_one _) (by simp)).mono ?_
  rintro e w1 ⟨v, rfl, ho, hf⟩
  go_wp2
  go_ret2
  exact ⟨⟨v, rfl, ho⟩, hf⟩
end Go.Proofs.YthdlljlcffokbaaDoor
namespace Go.Proofs.YthdlljlcffokbaaDoor
open Go.RowKit

theorem DkAt.c7 {w : World} {L : DL} {s : DS} (h : DkAt w L s) : w.cell? ⟨L.gd, 7, none⟩ = some (.slice L.kA s.keep.length L.kc) := (h.hd.cell 7).trans rfl
theorem DkAt.c8 {w : World} {L : DL} {s : DS} (h : DkAt w L s) : w.cell? ⟨L.gd, 8, none⟩ = some (.int .i64 s.torn) := (h.hd.cell 8).trans rfl
theorem DkAt.c9 {w : World} {L : DL} {s : DS} (h : DkAt w L s) : w.cell? ⟨L.gd, 9, none⟩ = some (.int .i64 (s.cut : Int)) := (h.hd.cell 9).trans rfl

section
variable {w : World} {L : DL} {s : DS}
theorem ownN_type {base size g : Nat} {e : TypeId} {v : Value} {n : Nat} {xs : List Value} (h : w.ownsRow base e size v n xs) (hb : v.ownBlock = some g) : ∃ cs, Blk w g e cs := by
  rcases h.2 with ⟨rfl, _⟩ | ⟨g', cap, cur, rfl, _, hg, _⟩
  · simp [Value.ownBlock] at hb
  · obtain rfl : g' = g := by simpa [Value.ownBlock] using hb
    exact ⟨cur.toList, by unfold Blk; simpa using hg⟩
theorem DkAt.l_gd (h : DkAt w L s) {b : Nat} (hb : L.vl.ownBlock = some b) : b ≠ L.gd := by
  obtain ⟨cs, hc⟩ := ownN_type h.hl hb
  exact hc.ne h.hd (by decide)
theorem DkAt.s_gd (h : DkAt w L s) {b : Nat} (hb : L.vs.ownBlock = some b) : b ≠ L.gd := by
  obtain ⟨cs, hc⟩ := ownN_type h.hs hb
  exact hc.ne h.hd (by decide)
theorem DkAt.w_gd (h : DkAt w L s) {b : Nat} (hb : L.vw.ownBlock = some b) : b ≠ L.gd := by
  obtain ⟨cs, hc⟩ := ownN_type h.hw hb
  exact hc.ne h.hd (by decide)
theorem DkAt.w_l (h : DkAt w L s) {b b' : Nat} (hb : L.vw.ownBlock = some b) (hb' : L.vl.ownBlock = some b') : b ≠ b' := by
  obtain ⟨cs, hc⟩ := ownN_type h.hw hb
  obtain ⟨cs', hc'⟩ := ownN_type h.hl hb'
  exact hc.ne hc' (by decide)
theorem DkAt.w_s (h : DkAt w L s) {b b' : Nat} (hb : L.vw.ownBlock = some b) (hb' : L.vs.ownBlock = some b') : b ≠ b' := by
  obtain ⟨cs, hc⟩ := ownN_type h.hw hb
  obtain ⟨cs', hc'⟩ := ownN_type h.hs hb'
  exact hc.ne hc' (by decide)
theorem DkAt.l_s (h : DkAt w L s) {b b' : Nat} (hb : L.vl.ownBlock = some b) (hb' : L.vs.ownBlock = some b') : b ≠ b' := fun e => h.ne (by rw [hb, hb', e])
end

/-- A disk one of whose own cells was written. -/
theorem DkAt.put {w : World} {L L' : DL} {s s' : DS} {k : Nat} {v : Value} (h : DkAt w L s) (hwf : s'.Wf) (hg : L'.gd = L.gd) (hl : L'.vl = L.vl) (hs : L'.vs = L.vs) (hkA : L'.kA = L.kA) (hkk : s'.keep = s.keep)
    (hc : s'.cells L' = (s.cells L).set k v) (hla : s'.lasts = s.lasts) (hsh : s'.shows = s.shows) (hw : (w.setCell ⟨L.gd, k, none⟩ v).ownsRow 0 107 129 L'.vw s'.waits.length (flatW s'.waits))
    (hkn : 0 < s.keep.length → ∀ b off, L.kA = some ⟨b, off, none⟩ → ¬ L'.blocks b) : DkAt (w.setCell ⟨L.gd, k, none⟩ v) L' s' := by
  have hf : Fr (fun b => b = L.gd) w (w.setCell ⟨L.gd, k, none⟩ v) := Fr.setCell (S := fun b => b = L.gd) Fr.refl (fun _ => rfl) v
  refine ⟨hwf, ?_, ?_, ?_, hw, ?_, ?_, ?_⟩
  · rw [hc, hg]; exact h.hd.set k v
  · rw [hl, hla]; exact ownN_fr h.hl hf (fun _ e => h.l_gd e)
  · rw [hs, hla, hsh]; exact ownN_fr h.hs hf (fun _ e => h.s_gd e)
  · rw [hkA, hkk]; exact h.hk.fr hf (fun hp b off e e' => h.kn hp b off e (.inl e'))
  · rw [hl, hs]; exact h.ne
  · rw [hkk, hkA]; exact hkn

theorem burns_off (w : World) (L : DL) (s : DS) (h : DkAt w L s) (hf : s.fset = false) :
    Calls Tryd.prog 65 #[.pointer (some ⟨L.gd, 0, none⟩)] w fun e w' => e = .returned (.bool false) ∧ w = w' := by
  have hc := h.c5
  rw [hf] at hc
  generalize L.gd = g at *
  go_enter Tryd.func65, Tryd.ntmps65
  go_wp2
  go_ret
  exact ⟨rfl, rfl⟩
theorem burns_now (w : World) (L : DL) (s : DS) (h : DkAt w L s) (hf : s.fset = true) (h0 : s.left = 0) :
    Calls Tryd.prog 65 #[.pointer (some ⟨L.gd, 0, none⟩)] w fun e w' => e = .returned (.bool true) ∧ w = w' := by
  have hc := h.c5
  have hd := h.c6
  rw [hf] at hc
  rw [h0] at hd
  generalize L.gd = g at *
  go_enter Tryd.func65, Tryd.ntmps65
  go_wp2
  go_ret
  exact ⟨rfl, rfl⟩
theorem burns_later (w : World) (L : DL) (s : DS) (h : DkAt w L s) (hf : s.fset = true) (h0 : s.left ≠ 0) :
    Calls Tryd.prog 65 #[.pointer (some ⟨L.gd, 0, none⟩)] w fun e w' => e = .returned (.bool false) ∧ w' = w.setCell ⟨L.gd, 6, none⟩ (.int .i64 ((s.left : Int) - 1)) := by
  have hc := h.c5
  have hd := h.c6
  have hz := h.hd.frozen 6
  rw [hf] at hc
  have hm := h.wf.lm
  have hl : 0 < (s.left : Int) := by omega
  have hne : ¬ (s.left : Int) = 0 := by omega
  generalize L.gd = g at *
  generalize (s.left : Int) = l at *
  go_enter Tryd.func65, Tryd.ntmps65
  go_wp2
  go_ret
  exact ⟨rfl, rfl⟩
end Go.Proofs.YthdlljlcffokbaaDoor
namespace Go.Proofs.YthdlljlcffokbaaDoor
open Go.RowKit

theorem kept_any (k : Nat) (g : Nat) (A : Option Addr) (c : Nat) (keep : List Bool) (torn cut : Value) (w : World) (hb : Blk w g 25 [.slice A keep.length c, torn, cut]) (hk : Rd w A keep.length (boolsV keep)) :
    Calls Tryd.prog 61 #[.int .i64 (k : Int), .pointer (some ⟨g, 0, none⟩)] w fun e w' => e = .returned (.bool (keep.getD k false)) ∧ w = w' := by
  have hc : w.cell? ⟨g, 0, none⟩ = some (.slice A keep.length c) := (hb.cell 0).trans rfl
  by_cases h1 : k < keep.length
  · obtain ⟨b, off, rfl, u, hu, hcell⟩ := hk.at_ h1
    have hu : u = .bool (keep.getD k false) := by
      unfold boolsV at hu
      rw [List.getElem?_map, List.getElem?_eq_getElem h1] at hu
      rw [List.getD_eq_getElem?_getD, List.getElem?_eq_getElem h1]
      simpa using hu.symm
    subst hu
    generalize keep.getD k false = r at *
    clear hb hk
    generalize keep.length = n at *
    go_enter Tryd.func61, Tryd.ntmps61
    go_wp2
    go_ret
    exact ⟨rfl, rfl⟩
  · have hr : keep.getD k false = false := by rw [List.getD_eq_getElem?_getD, List.getElem?_eq_none (by omega)]; rfl
    rw [hr]
    clear hb hk
    generalize keep.length = n at *
    go_enter Tryd.func61, Tryd.ntmps61
    go_wp2
    go_ret
    exact ⟨rfl, rfl⟩
end Go.Proofs.YthdlljlcffokbaaDoor
namespace Go.Proofs.YthdlljlcffokbaaDoor
open Go.RowKit

/-- One write that waits, at a crash. -/
def crashOne (keep : List Bool) (torn : Int) (cut k : Nat) (x : Nat × List UInt8) (l : List (List UInt8)) : List (List UInt8) :=
  if (k : Int) = torn then l.set x.1 (x.2.take cut ++ (l.getD x.1 []).drop cut) else if keep.getD k false then l.set x.1 x.2 else l
def crashFrom (keep : List Bool) (torn : Int) (cut : Nat) : Nat → List (Nat × List UInt8) → List (List UInt8) → List (List UInt8)
  | _, [], l => l
  | k, x :: xs, l => crashFrom keep torn cut (k + 1) xs (crashOne keep torn cut k x l)
def flushAll : List (Nat × List UInt8) → List (List UInt8) → List (List UInt8)
  | [], l => l
  | x :: xs, l => flushAll xs (l.set x.1 x.2)
def DS.crash (s : DS) (keep : List Bool) (torn : Int) (cut : Nat) : DS := { s with lasts := crashFrom keep torn cut 0 s.waits s.lasts, waits := [], dead := true }
def DS.flush (s : DS) : DS := { s with lasts := flushAll s.waits s.lasts, waits := [], done := s.done + 1 }

theorem crashOne_length (keep : List Bool) (torn : Int) (cut k : Nat) (x : Nat × List UInt8) (l : List (List UInt8)) : (crashOne keep torn cut k x l).length = l.length := by
  unfold crashOne; split
  · simp
  · split <;> simp
theorem crashOne_all {keep : List Bool} {torn : Int} {cut k : Nat} {x : Nat × List UInt8} {l : List (List UInt8)} (h : All 128 l) (hx : x.1 < l.length ∧ x.2.length = 128) (hc : cut ≤ 128) : All 128 (crashOne keep torn cut k x l) := by
  unfold crashOne; split
  · refine h.set _ ?_
    have : (l.getD x.1 []).length = 128 := by
      rw [List.getD_eq_getElem?_getD, List.getElem?_eq_getElem hx.1]; exact h _ (List.getElem_mem _)
    simp only [List.length_append, List.length_take, List.length_drop, hx.2, this]; omega
  · split
    · exact h.set _ hx.2
    · exact h
theorem crashFrom_length (keep : List Bool) (torn : Int) (cut : Nat) : ∀ (k : Nat) (ws : List (Nat × List UInt8)) (l : List (List UInt8)), (crashFrom keep torn cut k ws l).length = l.length
  | _, [], _ => rfl
  | k, x :: xs, l => by rw [crashFrom, crashFrom_length, crashOne_length]
theorem crashFrom_all {keep : List Bool} {torn : Int} {cut : Nat} (hc : cut ≤ 128) : ∀ (k : Nat) (ws : List (Nat × List UInt8)) (l : List (List UInt8)), All 128 l → (∀ x ∈ ws, x.1 < l.length ∧ x.2.length = 128) → All 128 (crashFrom keep torn cut k ws l)
  | _, [], _, h, _ => h
  | k, x :: xs, l, h, hw => by
    rw [crashFrom]
    refine crashFrom_all hc _ _ _ (crashOne_all h (hw x List.mem_cons_self) hc) fun y hy => ?_
    rw [crashOne_length]; exact hw y (List.mem_cons_of_mem _ hy)
theorem flushAll_length : ∀ (ws : List (Nat × List UInt8)) (l : List (List UInt8)), (flushAll ws l).length = l.length
  | [], _ => rfl
  | x :: xs, l => by rw [flushAll, flushAll_length, List.length_set]
theorem flushAll_all : ∀ (ws : List (Nat × List UInt8)) (l : List (List UInt8)), All 128 l → (∀ x ∈ ws, x.2.length = 128) → All 128 (flushAll ws l)
  | [], _, h, _ => h
  | x :: xs, l, h, hw => by
    rw [flushAll]
    exact flushAll_all _ _ (h.set _ (hw x List.mem_cons_self)) fun y hy => hw y (List.mem_cons_of_mem _ hy)
theorem DS.crash_wf {s : DS} (h : s.Wf) {keep : List Bool} {torn : Int} {cut : Nat} (hc : cut ≤ 128) : (s.crash keep torn cut).Wf where
  pos := by rw [show (s.crash keep torn cut).lasts.length = s.lasts.length from crashFrom_length ..]; exact h.pos
  le := by rw [show (s.crash keep torn cut).lasts.length = s.lasts.length from crashFrom_length ..]; exact h.le
  sl := by rw [show (s.crash keep torn cut).lasts.length = s.lasts.length from crashFrom_length ..]; exact h.sl
  al := crashFrom_all hc _ _ _ h.al h.aw
  ash := h.ash
  aw := by simp [DS.crash]
  cut := h.cut
  lm := h.lm
theorem DS.flush_wf {s : DS} (h : s.Wf) : s.flush.Wf where
  pos := by rw [show s.flush.lasts.length = s.lasts.length from flushAll_length ..]; exact h.pos
  le := by rw [show s.flush.lasts.length = s.lasts.length from flushAll_length ..]; exact h.le
  sl := by rw [show s.flush.lasts.length = s.lasts.length from flushAll_length ..]; exact h.sl
  al := flushAll_all _ _ h.al (fun x hx => (h.aw x hx).2)
  ash := h.ash
  aw := by simp [DS.flush]
  cut := h.cut
  lm := h.lm
end Go.Proofs.YthdlljlcffokbaaDoor
namespace Go.Proofs.YthdlljlcffokbaaDoor
def foL : List (Nat × Nat × Nat) := [(25, 0, 0), (25, 1, 1), (25, 2, 2), (38, 0, 0), (38, 1, 1), (41, 0, 0), (41, 1, 1), (41, 2, 2), (41, 3, 3), (66, 0, 0), (66, 1, 1), (66, 2, 2), (66, 3, 3), (76, 0, 0), (76, 1, 1), (76, 2, 2), (78, 0, 0), (78, 1, 1), (78, 2, 2), (78, 3, 3), (78, 4, 4), (78, 5, 5), (82, 0, 0), (82, 1, 1), (82, 2, 2), (82, 3, 3), (82, 4, 4), (82, 5, 5), (95, 0, 0), (95, 1, 1), (95, 2, 2), (95, 3, 4), (97, 0, 0), (97, 1, 1), (97, 2, 2), (97, 3, 3), (107, 0, 0), (107, 1, 1), (131, 0, 0), (131, 1, 1)]
def scL : List Nat := [3, 4, 5, 9, 21, 22, 23, 27, 28, 31, 36, 39, 55, 59, 60, 63, 73, 74, 80, 108, 124]
def slL : List (Nat × Nat × Nat) := [(22, 41, 4), (23, 4, 1), (39, 5, 1), (55, 3, 1), (59, 66, 4), (73, 90, 128), (74, 107, 129)]
def arL : List (Nat × Nat × Nat × Nat) := [(90, 128, 5, 1), (93, 2, 3, 1), (111, 512, 5, 1), (116, 8, 5, 1), (120, 256, 4, 1), (129, 256, 5, 1), (132, 16, 131, 2)]
def ptL : List (Nat × Nat) := [(27, 78), (31, 82), (60, 97), (63, 95), (124, 120)]
def get3 : List (Nat × Nat × Nat) → Nat → Nat → Option Nat
  | [], _, _ => none
  | (a, b, k) :: l, s, f => match Nat.beq a s with
    | true => match Nat.beq b f with
      | true => some k
      | false => get3 l s f
    | false => get3 l s f
def hasN : List Nat → Nat → Bool
  | [], _ => false
  | a :: l, t => match Nat.beq a t with
    | true => true
    | false => hasN l t
def get2 : List (Nat × Nat × Nat) → Nat → Option (Nat × Nat)
  | [], _ => none
  | (a, p) :: l, t => match Nat.beq a t with
    | true => some p
    | false => get2 l t
def get1 : List (Nat × Nat) → Nat → Option Nat
  | [], _ => none
  | (a, p) :: l, t => match Nat.beq a t with
    | true => some p
    | false => get1 l t
theorem get1_mem : ∀ (l : List (Nat × Nat)) {t : Nat} {p : Nat}, get1 l t = some p → (t, p) ∈ l
  | [], _, _, h => by simp [get1] at h
  | (a, q) :: l, t, p, h => by
    unfold get1 at h
    split at h
    · rename_i h1; obtain rfl := Nat.eq_of_beq_eq_true h1; simp only [Option.some.injEq] at h; subst h; simp
    · exact List.mem_cons_of_mem _ (get1_mem l h)
def get4 : List (Nat × Nat × Nat × Nat) → Nat → Option (Nat × Nat × Nat)
  | [], _ => none
  | (a, p) :: l, t => match Nat.beq a t with
    | true => some p
    | false => get4 l t
theorem get3_mem : ∀ (l : List (Nat × Nat × Nat)) {s f k : Nat}, get3 l s f = some k → (s, f, k) ∈ l
  | [], _, _, _, h => by simp [get3] at h
  | (a, b, c) :: l, s, f, k, h => by
    unfold get3 at h
    split at h
    · rename_i h1
      split at h
      · rename_i h2
        obtain rfl := Nat.eq_of_beq_eq_true h1; obtain rfl := Nat.eq_of_beq_eq_true h2
        simp only [Option.some.injEq] at h; subst h; simp
      · exact List.mem_cons_of_mem _ (get3_mem l h)
    · exact List.mem_cons_of_mem _ (get3_mem l h)
theorem hasN_mem : ∀ (l : List Nat) {t : Nat}, hasN l t = true → t ∈ l
  | [], _, h => by simp [hasN] at h
  | a :: l, t, h => by
    unfold hasN at h
    split at h
    · rename_i h1; obtain rfl := Nat.eq_of_beq_eq_true h1; simp
    · exact List.mem_cons_of_mem _ (hasN_mem l h)
theorem get2_mem : ∀ (l : List (Nat × Nat × Nat)) {t : Nat} {p : Nat × Nat}, get2 l t = some p → (t, p) ∈ l
  | [], _, _, h => by simp [get2] at h
  | (a, q) :: l, t, p, h => by
    unfold get2 at h
    split at h
    · rename_i h1; obtain rfl := Nat.eq_of_beq_eq_true h1; simp only [Option.some.injEq] at h; subst h; simp
    · exact List.mem_cons_of_mem _ (get2_mem l h)
theorem get4_mem : ∀ (l : List (Nat × Nat × Nat × Nat)) {t : Nat} {p : Nat × Nat × Nat}, get4 l t = some p → (t, p) ∈ l
  | [], _, _, h => by simp [get4] at h
  | (a, q) :: l, t, p, h => by
    unfold get4 at h
    split at h
    · rename_i h1; obtain rfl := Nat.eq_of_beq_eq_true h1; simp only [Option.some.injEq] at h; subst h; simp
    · exact List.mem_cons_of_mem _ (get4_mem l h)
theorem foL_ok : foL.all (fun x => fieldOff Tryd.prog x.1 x.2.1 == some x.2.2) = true := by kernel_rfl
theorem scL_ok : scL.all (fun x => scalarTy Tryd.prog x) = true := by kernel_rfl
theorem slL_ok : slL.all (fun x => sliceElem Tryd.prog x.1 == some x.2) = true := by kernel_rfl
theorem arL_ok : arL.all (fun x => arrElem Tryd.prog x.1 == some x.2) = true := by kernel_rfl
theorem ptL_ok : ptL.all (fun x => ptrElem Tryd.prog x.1 == some x.2) = true := by kernel_rfl
theorem hmix : Tryd.prog.follows .mixedOrders = true := by kernel_rfl
theorem pt {t el : Nat} (h : get1 ptL t = some el) : ptrElem Tryd.prog t = some el := by
  have := List.all_eq_true.1 ptL_ok _ (get1_mem _ h); simpa using this
theorem fo {s f k : Nat} (h : get3 foL s f = some k) : fieldOff Tryd.prog s f = some k := by
  have := List.all_eq_true.1 foL_ok _ (get3_mem _ h); simpa using this
theorem yp {e : Env} {o : Oper} {w : World} {v : Value} (h : pureOp (get3 foL) e o.op = some v) : Y Tryd.prog e o w v := y_pure (fun _ _ _ h => fo h) h
theorem sc {t : Nat} (h : hasN scL t = true) : scalarTy Tryd.prog t = true := List.all_eq_true.1 scL_ok _ (hasN_mem _ h)
theorem sl {t el sz : Nat} (h : get2 slL t = some (el, sz)) : sliceElem Tryd.prog t = some (el, sz) := by
  have := List.all_eq_true.1 slL_ok _ (get2_mem _ h); simpa using this
theorem ar {t n el sz : Nat} (h : get4 arL t = some (n, el, sz)) : arrElem Tryd.prog t = some (n, el, sz) := by
  have := List.all_eq_true.1 arL_ok _ (get4_mem _ h); simpa using this
end Go.Proofs.YthdlljlcffokbaaDoor
namespace Go.Proofs.YthdlljlcffokbaaDoor
open Go.RowKit

theorem flatW_length {l : List (Nat × List UInt8)} (h : ∀ x ∈ l, x.2.length = 128) : (flatW l).length = l.length * 129 := by
  unfold flatW
  rw [flat_length (m := 129) (l := l.map wcells) (fun y hy => by obtain ⟨x, hx, rfl⟩ := List.mem_map.1 hy; simp [wcells, bvs_length, h x hx]), List.length_map]
theorem flatW_at {l : List (Nat × List UInt8)} (h : ∀ x ∈ l, x.2.length = 128) {k : Nat} {x : Nat × List UInt8} (hx : l[k]? = some x) : ((flatW l).drop (k * 129)).take 129 = wcells x := by
  unfold flatW
  exact flat_at (m := 129) (l := l.map wcells) (fun y hy => by obtain ⟨x, hx, rfl⟩ := List.mem_map.1 hy; simp [wcells, bvs_length, h x hx]) (by rw [List.getElem?_map, hx]; rfl)
theorem size_write : (Tryd.prog.info? 107).map (·.size) = some 129 := by kernel_rfl
theorem zero_write : (Tryd.prog.info? 107).map (·.zero) = some (some (.agg (wcells (0, zsec)).toArray)) := by kernel_rfl
theorem wcells_one (x : Nat × List UInt8) : ∀ u ∈ wcells x, u.oneCell' = true := by
  intro u hu
  rcases List.mem_cons.1 hu with rfl | h
  · rfl
  · exact bvs_one _ u h
theorem plan_size : (Tryd.prog.info? 25).map (·.size) = some 3 := by kernel_rfl

theorem put_front (a r xs : List Value) (off : Nat) (h : off + xs.length ≤ a.length) : put (a ++ r) off xs = put a off xs ++ r := by
  unfold put
  rw [List.take_append_of_le_length (by omega), List.drop_append_of_le_length h, List.append_assoc, List.append_assoc]
theorem put_more (cs xs ys : List Value) (off : Nat) (h : (cs.drop (off + xs.length)).take ys.length = ys) : put cs off (xs ++ ys) = put cs off xs := by
  have e : ys ++ cs.drop (off + xs.length + ys.length) = cs.drop (off + xs.length) := by
    rw [← List.drop_drop]
    conv => lhs; lhs; rw [← h]
    exact List.take_append_drop _ _
  unfold put
  rw [List.append_assoc, List.length_append, ← Nat.add_assoc, e]
theorem flatB_part {l : List (List UInt8)} (h : All 128 l) {i : Nat} {old t : List UInt8} (hi : l[i]? = some old) (ht : t.length ≤ 128) :
    put (flatB l) (i * 128) (bvs t) = flatB (l.set i (t ++ old.drop t.length)) := by
  have ho := h.at hi
  rw [← flatB_put h (List.getElem?_eq_some_iff.1 hi).1 _ (by simp; omega), bvs_append]
  refine (put_more _ _ _ _ ?_).symm
  have := flatB_at h hi
  rw [← List.drop_drop, bvs_length, bvs_length, List.length_drop, ho]
  have e : bvs (old.drop t.length) = (bvs old).drop t.length := by simp [bvs]
  rw [e, ← this, List.drop_take]

set_option maxHeartbeats 4000000 in
theorem crash_any (w : World) (L : DL) (s : DS) (h : DkAt w L s) (A : Option Addr) (c : Nat) (keep : List Bool) (torn : Int) (cut : Nat) (hk : Rd w A keep.length (boolsV keep)) (hkn : 0 < keep.length → ∀ b off, A = some ⟨b, off, none⟩ → ¬ L.blocks b) (hcut : cut ≤ 128) :
    Calls Tryd.prog 41 #[.pointer (some ⟨L.gd, 0, none⟩), .agg #[.slice A keep.length c, .int .i64 torn, .int .i64 (cut : Int)]] w fun e w' =>
      e = .returned (.tuple #[]) ∧ DkAt w' { L with vw := .slice none 0 0 } (s.crash keep torn cut) ∧ Fr L.blocks w w' := by
  obtain ⟨gl, cl, rl, evl, _, hcl, hcm, hbl, hll⟩ := ownN_blk h.hl h.wf.pos
  obtain ⟨wA, wc, evw, hwc, hwr, _, _⟩ := ownN_form h.hw
  have hgl : L.vl.ownBlock = some gl := by rw [evl]; rfl
  have hgl1 := h.l_gd hgl
  have hgl2 := h.hd.lt
  have hgl3 := (h.hl.lt gl hgl).2
  have hpos := h.wf.pos
  have hle := h.wf.le
  have hwlen := flatW_length (fun y hy => (h.wf.aw y hy).2)
  refine sx_enter (vs := [_, _]) Tryd.func41 rfl Tryd.ntmps41 rfl ?_
  refine sx_seq ?_
  refine sx_region ?_
  refine sxl_does (some 3) (wn_none rfl) rfl rfl (fun ρ hρ => does_box 25 (.tmp 1) rfl [.slice A keep.length c, .int .i64 torn, .int .i64 (cut : Int)] (by rw [hρ _ _ rfl]; rfl)) ?_
  rintro _ w1 ⟨g3, rfl, h3, h3', hb1, hf1⟩
  have hz1 := hf1.size
  have q2 : Cell w1.heap L.gd 2 (.slice wA s.waits.length wc) := by
    have := h.hd.fr0 hf1
    exact this.c 2 (by rw [← evw]; rfl)
  refine sxl_nil ?_
  refine qx_seq ?_
  refine sx_seq ?_
  refine sx_region ?_
  refine sxl_y (wn_none rfl) rfl rfl (y_func rfl rfl rfl) ?_
  refine sxl_y (wn_none rfl) rfl rfl (yp rfl) ?_
  refine sxl_nil ?_
  refine qx_seq ?_
  refine sx_seq ?_
  refine sx_seq ?_
  refine sx_region ?_
  iterate 3 refine sxl_y (wn_none rfl) rfl rfl (yp rfl) ?_
  refine sxl_y (wn_none rfl) rfl rfl (y_load rfl rfl (sc rfl) (by assumption)) ?_
  refine sxl_y (wn_none rfl) rfl rfl (y_len rfl rfl (sl rfl)) ?_
  refine sxl_y (wn_none rfl) rfl rfl (yp rfl) ?_
  refine sxl_nil ?_
  refine qx_seq ?_
  refine sx_block ?_
  refine sx_loop (fun e wr m => ∃ (k : Nat) (l : List (List UInt8)), e = [(13, .int .i64 (k : Int)), (0, .pointer (some ⟨L.gd, 0, none⟩)), (3, .pointer (some ⟨g3, 0, none⟩)), (4, .func (.func 61) #[] #[.pointer (some ⟨g3, 0, none⟩)]), (11, .slice wA s.waits.length wc), (12, .int .i64 (s.waits.length : Int))]
      ∧ k ≤ s.waits.length ∧ Blk wr gl 90 (flatB l ++ rl) ∧ All 128 l ∧ l.length = s.lasts.length ∧ crashFrom keep torn cut k (s.waits.drop k) l = crashFrom keep torn cut 0 s.waits s.lasts ∧ Fr (fun b => b = gl) w1 wr ∧ m = s.waits.length - k)
    ⟨0, s.lasts, rfl, Nat.zero_le _, hbl.fr0 hf1, h.wf.al, rfl, rfl, Fr.refl, rfl⟩ ⟨rfl, rfl, rfl, rfl, rfl, rfl, trivial⟩ ?_
  rintro _ wr _ ⟨k, l, rfl, hkw, hb, hal, hln, hcr, hfr, rfl⟩
  have hzr := hfr.size
  by_cases hlt : k < s.waits.length
  · obtain ⟨x, hx⟩ : ∃ x, s.waits[k]? = some x := ⟨_, List.getElem?_eq_getElem hlt⟩
    obtain ⟨hx1, hx2⟩ := h.wf.aw x (List.mem_of_getElem? hx)
    obtain ⟨gw, cw, rw', evw', _, hwc1, hwc2, hbw, _⟩ := ownN_blk h.hw (by omega)
    unfold maxLen at hwc2
    have hgwl := h.w_l (b := gw) (by rw [evw']; rfl) hgl
    have hgw := hbw.lt
    rw [evw'] at evw
    injection evw with e1 _ e2
    subst e1 e2
    have hwx : (wcells x).length = 129 := by simp [wcells, bvs_length, hx2]
    have hk1 : (k + 1) * 129 ≤ s.waits.length * 129 := Nat.mul_le_mul_right _ hlt
    have hld : ((flatW s.waits ++ rw').drop (k * 129)).take 129 = wcells x := by
      rw [List.drop_append_of_le_length (by rw [hwlen]; omega), List.take_append_of_le_length (by rw [List.length_drop, hwlen]; omega)]
      exact flatW_at (fun y hy => (h.wf.aw y hy).2) hx
    have hbw2 := (hbw.fr0 hf1).fr hfr hgwl
    refine sx_seq ?_
    refine sx_region ?_
    refine sxl_y (wn_none rfl) rfl rfl (y_lss_t rfl rfl rfl (by omega)) ?_
    refine sxl_nil ?_
    refine qx_seq ?_
    refine sx_seq ?_
    refine sx_true rfl ?_
    refine sx_skip ?_
    refine qx_seq ?_
    refine sx_seq ?_
    refine sx_block ?_
    refine sx_seq ?_
    refine sx_region ?_
    refine sxl_y (wn_none rfl) rfl rfl (yp rfl) ?_
    refine sxl_y (wn_none rfl) rfl rfl (y_indexN rfl rfl rfl (sl rfl) (by omega)) ?_
    refine sxl_does (some 17) (wn_none rfl) rfl rfl (fun ρ hρ => does_load 107 (.tmp 16) rfl gw (k * 129) 129 107 (flatW s.waits ++ rw') _ (by rw [hρ _ _ rfl, Nat.zero_add]) hbw2 Tryd.underlying107 rfl size_write (by rw [List.length_append, hwlen]; omega)) ?_
    rintro _ _ ⟨rfl, rfl⟩
    rw [hld]
    refine sxl_does (some 6) (wn_none rfl) rfl rfl (fun ρ hρ => does_alloc 107 rfl _ (wcells (0, zsec)) (zero_write) rfl) ?_
    rintro _ w5 ⟨g6, rfl, h6, h6', hb6, hf6⟩
    refine sxl_y (wn_none rfl) rfl rfl (yp rfl) ?_
    refine sxl_does none (wn_none rfl) rfl rfl (fun ρ hρ => does_store 107 (.tmp 6) (.tmp 17) rfl g6 0 107 (wcells (0, zsec)) (wcells x) (hρ _ _ rfl) (hρ _ _ rfl) hb6 (by rw [hwx]; exact size_write) (by rw [hwx]; exact Nat.le_refl _) (wcells_one x)) ?_
    rintro _ w6 ⟨rfl, hb6', hf6'⟩
    rw [put_all _ _ (by rw [hwx]; rfl)] at hb6'
    have hf : Fr (fun b => b = g6) wr w6 := (Fr.of0 hf6 : Fr (fun b => b = g6) wr w5).trans hf6'
    have hp6 := ((hb1.fr hfr (by omega)).fr hf (by omega))
    have c31 : Cell w6.heap g3 1 (.int .i64 torn) := hp6.c 1 rfl
    have c32 : Cell w6.heap g3 2 (.int .i64 (cut : Int)) := hp6.c 2 rfl
    have hd6 := ((h.hd.fr0 hf1).fr hfr (by omega)).fr hf (by have := h.hd.lt; omega)
    have c00 : Cell w6.heap L.gd 0 (.slice (some ⟨gl, 0, none⟩) s.lasts.length cl) := hd6.c 0 (by rw [← evl]; rfl)
    have c60 : Cell w6.heap g6 0 (.int .i64 (x.1 : Int)) := hb6'.c 0 rfl
    have hb6l := hb.fr hf (by omega)
    obtain ⟨old, hold⟩ : ∃ old, l[x.1]? = some old := ⟨_, List.getElem?_eq_getElem (by omega)⟩
    have hlold : l.getD x.1 [] = old := by rw [List.getD_eq_getElem?_getD, hold]; rfl
    have hfl := flatB_length hal
    have hx1' : (x.1 + 1) * 128 ≤ l.length * 128 := Nat.mul_le_mul_right _ (by omega)
    have hdrop : s.waits.drop k = x :: s.waits.drop (k + 1) := by
      rw [List.drop_eq_getElem_cons hlt]; congr 1; exact (List.getElem?_eq_some_iff.1 hx).2
    rw [hdrop, crashFrom] at hcr
    have hl' := crashOne_length keep torn cut k x l
    have hal' : All 128 (crashOne keep torn cut k x l) := crashOne_all hal (by omega) hcut
    have fin : ∀ w7, Blk w7 gl 90 (flatB (crashOne keep torn cut k x l) ++ rl) → Fr (fun b => b = gl) w6 w7 → Fr (fun b => b = gl) w1 w7 := fun w7 _ hf7 =>
      ((hfr.then0 hf6).step hf6' (fun b hb e => by omega)).step hf7 (fun _ _ hh => hh)
    by_cases ht : (k : Int) = torn
    · refine sxl_nil ?_
      refine qx_seq ?_
      refine sx_block ?_
      refine sx_seq ?_
      refine sx_region ?_
      iterate 2 refine sxl_y (wn_none rfl) rfl rfl (yp rfl) ?_
      refine sxl_y (wn_none rfl) rfl rfl (y_load rfl rfl (sc rfl) (by assumption)) ?_
      refine sxl_y (wn_none rfl) rfl rfl (y_eql_t rfl rfl rfl (by omega)) ?_
      refine sxl_y (wn_none rfl) rfl rfl (yp rfl) ?_
      refine sxl_nil ?_
      refine qx_seq ?_
      refine sx_true rfl ?_
      refine sx_tail 14 hmix (by kernel_rfl) ?_
      iterate 3 refine sxs_y (wn_none rfl) rfl rfl (yp rfl) ?_
      refine sxs_y (wn_none rfl) rfl rfl (y_load rfl rfl (sc rfl) (by assumption)) ?_
      refine sxs_y (wn_none rfl) rfl rfl (yp rfl) ?_
      refine sxs_y (wn_none rfl) rfl rfl (y_load rfl rfl (sc rfl) (by assumption)) ?_
      refine sxs_y (wn_none rfl) rfl rfl (y_indexN rfl rfl rfl (sl rfl) (by omega)) ?_
      refine sxs_y (wn_none rfl) rfl rfl (yp rfl) ?_
      refine sxs_y (wn_none rfl) rfl rfl (y_load rfl rfl (sc rfl) (by assumption)) ?_
      refine sxs_y (wn_none rfl) rfl rfl (y_sliceArr rfl rfl rfl (ar rfl) (by omega)) ?_
      iterate 2 refine sxs_y (wn_none rfl) rfl rfl (yp rfl) ?_
      refine sxs_y (wn_none rfl) rfl rfl (y_load rfl rfl (sc rfl) (by assumption)) ?_
      refine sxs_y (wn_none rfl) rfl rfl (y_sliceArr rfl rfl rfl (ar rfl) (by omega)) ?_
      refine sxs_tail ?_
      refine sxl_does (some 37) (wn_none rfl) rfl rfl (fun ρ hρ => does_copy (.tmp 32) (.tmp 36) 39 39 rfl 5 Tryd.underlying39 size_byte gl (x.1 * 128) cut 128 (some ⟨g6, 1, none⟩) cut 128 (by rw [hρ _ _ rfl, Nat.zero_add]; rfl) (by rw [hρ _ _ rfl]; rfl) 90 (flatB l ++ rl) (bvs (x.2.take cut)) hb6l.drew
        (by have := Rd.of_blk hb6' 1 (n := cut) (by rw [hwx]; omega)
            have e : ((wcells x).drop 1).take cut = bvs (x.2.take cut) := by simp [wcells, bvs]
            rw [e] at this; exact this) (Nat.le_refl _) (by rw [List.length_append, hfl]; omega) (bvs_one _)) ?_
      rintro _ w7 ⟨rfl, hb7, hf7⟩
      have htl : (x.2.take cut).length = cut := by simp [hx2]; omega
      rw [put_front _ _ _ _ (by rw [bvs_length, htl, hfl]; omega), flatB_part hal hold (by omega), htl] at hb7
      have he : l.set x.1 (x.2.take cut ++ old.drop cut) = crashOne keep torn cut k x l := by unfold crashOne; rw [if_pos ht, hlold]
      rw [he] at hb7
      refine sxl_nil ?_
      refine qx_block_normal ?_
      refine qx_block_normal ?_
      refine qx_seq ?_
      refine sx_region ?_
      refine sxl_y (wn_none rfl) rfl rfl (y_add rfl rfl rfl (by omega)) ?_
      refine sxl_y (wn_none rfl) rfl rfl (yp rfl) ?_
      refine sxl_nil ?_
      refine qx_again [(13, .int .i64 ((k + 1 : Nat) : Int)), (0, .pointer (some ⟨L.gd, 0, none⟩)), (3, .pointer (some ⟨g3, 0, none⟩)), (4, .func (.func 61) #[] #[.pointer (some ⟨g3, 0, none⟩)]), (11, .slice (some ⟨gw, 0, none⟩) s.waits.length cw), (12, .int .i64 (s.waits.length : Int))] (s.waits.length - (k + 1)) ?_ ?_ ?_
      · exact ⟨k + 1, _, rfl, by omega, hb7, hal', by omega, hcr, fin w7 hb7 hf7.ofDrew, rfl⟩
      · omega
      · exact ⟨rfl, rfl, rfl, rfl, rfl, rfl, trivial⟩
    · refine sxl_nil ?_
      refine qx_seq ?_
      refine sx_block ?_
      refine sx_seq ?_
      refine sx_region ?_
      iterate 2 refine sxl_y (wn_none rfl) rfl rfl (yp rfl) ?_
      refine sxl_y (wn_none rfl) rfl rfl (y_load rfl rfl (sc rfl) (by assumption)) ?_
      refine sxl_y (wn_none rfl) rfl rfl (y_eql_f rfl rfl rfl (by omega)) ?_
      refine sxl_y (wn_none rfl) rfl rfl (yp rfl) ?_
      refine sxl_nil ?_
      refine qx_seq ?_
      refine sx_false rfl ?_
      refine sx_seq ?_
      refine sx_region ?_
      iterate 2 refine sxl_y (wn_none rfl) rfl rfl (yp rfl) ?_
      refine sxl_call (some 41) (wn_none rfl) rfl rfl (yc_value rfl rfl rfl Tryd.call61) (kept_any k g3 A c keep _ _ w6 hp6 (((hk.fr0 hf1).fr hfr (fun hp b off e e' => hkn hp b off e (by subst e'; exact .inr (.inl hgl)))).fr hf (fun hp b off e e' => by have := hk.lt hp b off e; omega))) ?_
      rintro _ _ ⟨rfl, rfl⟩
      refine ⟨_, rfl, ?_⟩
      by_cases hkk : keep.getD k false = true
      · rw [hkk]
        have he : l.set x.1 x.2 = crashOne keep torn cut k x l := by unfold crashOne; rw [if_neg ht, if_pos hkk]
        refine sxl_y (wn_none rfl) rfl rfl (yp rfl) ?_
        refine sxl_nil ?_
        refine qx_seq ?_
        refine sx_true rfl ?_
        have hl65 : (((wcells x).drop 1).take 128) = bvs x.2 := by
          have : (bvs x.2).length ≤ 128 := by rw [bvs_length, hx2]; exact Nat.le_refl _
          simpa [wcells] using List.take_of_length_le this
        refine sx_tail 9 hmix (by kernel_rfl) ?_
        iterate 3 refine sxs_y (wn_none rfl) rfl rfl (yp rfl) ?_
        refine sxs_y (wn_none rfl) rfl rfl (y_load rfl rfl (sc rfl) (by assumption)) ?_
        refine sxs_y (wn_none rfl) rfl rfl (yp rfl) ?_
        refine sxs_y (wn_none rfl) rfl rfl (y_load rfl rfl (sc rfl) (by assumption)) ?_
        refine sxs_y (wn_none rfl) rfl rfl (yp rfl) ?_
        refine sxs_y (wn_none rfl) rfl rfl (y_loadB rfl rfl hb6'.drew Tryd.underlying90 rfl size_sec (by rw [hwx]; exact Nat.le_refl _)) ?_
        refine sxs_y (wn_none rfl) rfl rfl (y_indexN rfl rfl rfl (sl rfl) (by omega)) ?_
        refine sxs_tail ?_
        refine sxl_does none (wn_none rfl) rfl rfl (fun ρ hρ => does_store 90 (.tmp 50) (.tmp 49) rfl gl (x.1 * 128) 90 (flatB l ++ rl) (bvs x.2) (by rw [hρ _ _ rfl, Nat.zero_add]) (by rw [hρ _ _ rfl]; exact congrArg (fun z : List Value => Value.agg z.toArray) hl65) hb6l.drew (by rw [bvs_length, hx2]; exact size_sec) (by rw [List.length_append, hfl, bvs_length, hx2]; omega) (bvs_one _)) ?_
        rintro _ w7 ⟨rfl, hb7, hf7⟩
        rw [put_front _ _ _ _ (by rw [bvs_length, hx2, hfl]; omega), flatB_put hal (by omega) _ hx2, he] at hb7
        refine sxl_nil ?_
        refine qx_block_normal ?_
        refine qx_block_normal ?_
        refine qx_seq ?_
        refine sx_region ?_
        refine sxl_y (wn_none rfl) rfl rfl (y_add rfl rfl rfl (by omega)) ?_
        refine sxl_y (wn_none rfl) rfl rfl (yp rfl) ?_
        refine sxl_nil ?_
        refine qx_again [(13, .int .i64 ((k + 1 : Nat) : Int)), (0, .pointer (some ⟨L.gd, 0, none⟩)), (3, .pointer (some ⟨g3, 0, none⟩)), (4, .func (.func 61) #[] #[.pointer (some ⟨g3, 0, none⟩)]), (11, .slice (some ⟨gw, 0, none⟩) s.waits.length cw), (12, .int .i64 (s.waits.length : Int))] (s.waits.length - (k + 1)) ?_ ?_ ?_
        · exact ⟨k + 1, _, rfl, by omega, hb7, hal', by omega, hcr, fin w7 hb7 hf7.ofDrew, rfl⟩
        · omega
        · exact ⟨rfl, rfl, rfl, rfl, rfl, rfl, trivial⟩
      · have hkf : keep.getD k false = false := by simpa using hkk
        rw [hkf]
        have he : l = crashOne keep torn cut k x l := by unfold crashOne; rw [if_neg ht, if_neg hkk]
        refine sxl_y (wn_none rfl) rfl rfl (yp rfl) ?_
        refine sxl_nil ?_
        refine qx_seq ?_
        refine sx_false rfl ?_
        refine sx_skip ?_
        refine qx_block_normal ?_
        refine qx_block_normal ?_
        refine qx_seq ?_
        refine sx_region ?_
        refine sxl_y (wn_none rfl) rfl rfl (y_add rfl rfl rfl (by omega)) ?_
        refine sxl_y (wn_none rfl) rfl rfl (yp rfl) ?_
        refine sxl_nil ?_
        refine qx_again [(13, .int .i64 ((k + 1 : Nat) : Int)), (0, .pointer (some ⟨L.gd, 0, none⟩)), (3, .pointer (some ⟨g3, 0, none⟩)), (4, .func (.func 61) #[] #[.pointer (some ⟨g3, 0, none⟩)]), (11, .slice (some ⟨gw, 0, none⟩) s.waits.length cw), (12, .int .i64 (s.waits.length : Int))] (s.waits.length - (k + 1)) ?_ ?_ ?_
        · exact ⟨k + 1, _, rfl, by omega, by rw [← he]; exact hb6l, hal', by omega, hcr, fin w6 (by rw [← he]; exact hb6l) Fr.refl, rfl⟩
        · omega
        · exact ⟨rfl, rfl, rfl, rfl, rfl, rfl, trivial⟩
  · obtain rfl : k = s.waits.length := by omega
    have hdr := (h.hd.fr0 hf1).fr hfr (by omega)
    refine sx_seq ?_
    refine sx_region ?_
    refine sxl_y (wn_none rfl) rfl rfl (y_lss_f rfl rfl rfl (by omega)) ?_
    refine sxl_nil ?_
    refine qx_seq ?_
    refine sx_seq ?_
    refine sx_false rfl ?_
    refine sx_exit ?_
    refine qx_then_exit ?_
    refine qx_then_exit ?_
    refine qx_block_hit ?_
    refine qx_seq ?_
    refine sx_region ?_
    iterate 4 refine sxl_y (wn_none rfl) rfl rfl (yp rfl) ?_
    refine sxl_does none (wn_none rfl) rfl rfl (fun ρ hρ => does_store1 74 (.tmp 55) _ rfl L.gd 2 78 _ _ (hρ _ _ rfl) (hρ _ _ rfl) rfl hdr (by kernel_rfl) (by simp [DS.cells]) rfl) ?_
    rintro _ w8 ⟨rfl, hb8, hf8⟩
    iterate 2 refine sxl_y (wn_none rfl) rfl rfl (yp rfl) ?_
    refine sxl_does none (wn_none rfl) rfl rfl (fun ρ hρ => does_store1 4 (.tmp 57) _ rfl L.gd 4 78 _ _ (hρ _ _ rfl) (hρ _ _ rfl) rfl hb8 (by kernel_rfl) (by simp [DS.cells]) rfl) ?_
    rintro _ w9 ⟨rfl, hb9, hf9⟩
    refine sxl_nil ?_
    refine qx_ret0 (Or.inr rfl) rfl ?_
    rw [List.drop_length, crashFrom] at hcr
    have hcl' : (s.crash keep torn cut).lasts.length = s.lasts.length := crashFrom_length ..
    have hcl2 : (s.crash keep torn cut).lasts = l := hcr.symm
    have hf19 : Fr (fun b => b = gl ∨ b = L.gd) w w9 := ((((Fr.of0 hf1).step hfr (fun _ _ e => .inl e)).step hf8 (fun _ _ e => .inr e)).step hf9 (fun _ _ e => .inr e))
    have hbl9 := (hb.fr hf8 (by omega)).fr hf9 (by omega)
    refine ⟨rfl, ⟨DS.crash_wf h.wf hcut, hb9, ?_, ?_, World.ownsRow_nil _ _ _ _, ?_, h.ne, ?_⟩, hf19.mono ?_⟩
    · show w9.ownsRow 0 90 128 L.vl (s.crash keep torn cut).lasts.length (flatB (s.crash keep torn cut).lasts)
      rw [hcl', hcl2, evl]
      exact ownN_of_blk hbl9 (Nat.zero_le _) hcl hcm (by rw [← hll, List.length_append, List.length_append, flatB_length hal, flatB_length h.wf.al, hln]) (by rw [flatB_length hal, hln])
    · show w9.ownsRow 0 90 128 L.vs (s.crash keep torn cut).lasts.length (flatB s.shows)
      rw [hcl']
      exact ownN_fr h.hs hf19 (fun b hb' e => by
        rcases e with e | e
        · exact h.l_s hgl hb' e.symm
        · exact h.s_gd hb' e)
    · exact h.hk.fr hf19 (fun hp b off e e' => h.kn hp b off e (by
        rcases e' with rfl | rfl
        · exact .inr (.inl hgl)
        · exact .inl rfl))
    · intro hp b off e hb
      refine h.kn hp b off e ?_
      rcases hb with hb | hb | hb | hb
      · exact .inl hb
      · exact .inr (.inl hb)
      · exact .inr (.inr (.inl hb))
      · cases hb
    · rintro b _ (rfl | rfl)
      · exact .inr (.inl hgl)
      · exact .inl rfl
end Go.Proofs.YthdlljlcffokbaaDoor
namespace Go.Proofs.YthdlljlcffokbaaDoor
open Go.RowKit

def DS.due (s : DS) : Bool := s.fset && s.left == 0
def DS.burnt (s : DS) : DS := if s.fset && s.left != 0 then { s with left := s.left - 1 } else s
def DS.put (s : DS) (i : Nat) (b : List UInt8) : DS := { s with waits := s.waits ++ [(i, b)], shows := s.shows.set i b }
def DS.more (s : DS) : DS := { s with done := s.done + 1 }
def DS.writes (s : DS) (i : Nat) (b : List UInt8) : DS × Int :=
  if s.due then ((s.burnt.put i b).crash s.keep s.torn s.cut, 20) else ((s.burnt.put i b).more, 0)
def DS.flushes (s : DS) : DS × Int := if s.due then (s.crash s.keep s.torn s.cut, 20) else (s.burnt.flush, 0)

theorem DS.burnt_wf {s : DS} (h : s.Wf) : s.burnt.Wf := by
  unfold DS.burnt
  split
  · exact ⟨h.pos, h.le, h.sl, h.al, h.ash, h.aw, h.cut, by have := h.lm; show ((s.left - 1 : Nat) : Int) < _; omega⟩
  · exact h
theorem DS.burnt_due {s : DS} (h : s.due = true) : s.burnt = s := by
  unfold DS.due at h; unfold DS.burnt
  simp only [Bool.and_eq_true, beq_iff_eq] at h
  simp [h.1, h.2]
theorem DS.put_wf {s : DS} (h : s.Wf) {i : Nat} {b : List UInt8} (hi : i < s.lasts.length) (hb : b.length = 128) : (s.put i b).Wf where
  pos := h.pos
  le := h.le
  sl := by simpa [DS.put] using h.sl
  al := h.al
  ash := h.ash.set i hb
  aw := by
    intro x hx
    rcases List.mem_append.1 hx with hx | hx
    · exact h.aw x hx
    · obtain rfl : x = (i, b) := by simpa using hx
      exact ⟨hi, hb⟩
  cut := h.cut
  lm := h.lm

/-- What a call that writes a disk leaves. -/
structure DkTo (w w' : World) (L L' : DL) (s' : DS) : Prop where
  dk : DkAt w' L' s'
  gd : L'.gd = L.gd
  fr : Fr L.blocks w w'
  bl : ∀ b, L'.blocks b → L.blocks b ∨ w.heap.size ≤ b
  kA : L'.kA = L.kA
theorem DkTo.trans {w w1 w2 : World} {L L1 L2 : DL} {s1 s2 : DS} (h : DkTo w w1 L L1 s1) (h' : DkTo w1 w2 L1 L2 s2) : DkTo w w2 L L2 s2 where
  dk := h'.dk
  gd := h'.gd.trans h.gd
  fr := h.fr.step h'.fr (fun b hb hl => (h.bl b hl).resolve_right (by omega))
  bl := fun b hb => by
    rcases h'.bl b hb with hb | hb
    · exact h.bl b hb
    · exact .inr (Nat.le_trans h.fr.size hb)
  kA := h'.kA.trans h.kA

/-- A disk of which only own cells were written. -/
theorem DkAt.upd {w w' : World} {L : DL} {s s' : DS} (h : DkAt w L s) (hwf : s'.Wf) (hb : Blk w' L.gd 78 (s'.cells L)) (hf : Fr (fun b => b = L.gd) w w') (hl : s'.lasts = s.lasts) (hs : s'.shows = s.shows) (hw : s'.waits = s.waits) (hk : s'.keep = s.keep) : DkTo w w' L L s' := by
  refine ⟨⟨hwf, hb, ?_, ?_, ?_, ?_, h.ne, ?_⟩, rfl, hf.mono (fun b _ e => .inl e), fun b hb => .inl hb, rfl⟩
  · rw [hl]; exact ownN_fr h.hl hf (fun _ e => h.l_gd e)
  · rw [hl, hs]; exact ownN_fr h.hs hf (fun _ e => h.s_gd e)
  · rw [hw]; exact ownN_fr h.hw hf (fun _ e => h.w_gd e)
  · rw [hk]; exact h.hk.fr hf (fun hp b off e e' => h.kn hp b off e (.inl e'))
  · rw [hk]; exact h.kn
theorem DS.more_wf {s : DS} (h : s.Wf) : s.more.Wf := ⟨h.pos, h.le, h.sl, h.al, h.ash, h.aw, h.cut, h.lm⟩
theorem DkTo.crash {w w1 w' : World} {L L1 : DL} {s1 : DS} {keep : List Bool} {torn : Int} {cut : Nat} (h : DkTo w w1 L L1 s1) (h' : DkAt w' { L1 with vw := .slice none 0 0 } (s1.crash keep torn cut)) (hf : Fr L1.blocks w1 w') : DkTo w w' L { L1 with vw := .slice none 0 0 } (s1.crash keep torn cut) := by
  refine h.trans ⟨h', rfl, hf, fun b hb => ?_, rfl⟩
  rcases hb with hb | hb | hb | hb
  · exact .inl (.inl hb)
  · exact .inl (.inr (.inl hb))
  · exact .inl (.inr (.inr (.inl hb)))
  · cases hb
theorem burns_any (w : World) (L : DL) (s : DS) (h : DkAt w L s) :
    Calls Tryd.prog 65 #[.pointer (some ⟨L.gd, 0, none⟩)] w fun e w' => e = .returned (.bool s.due) ∧ DkTo w w' L L s.burnt := by
  by_cases hf : s.fset = true
  · by_cases h0 : s.left = 0
    · refine (burns_now w L s h hf h0).mono ?_
      rintro e _ ⟨rfl, rfl⟩
      have hd : s.due = true := by simp [DS.due, hf, h0]
      exact ⟨by rw [hd], by rw [DS.burnt_due hd]; exact h, rfl, Fr.refl, fun b hb => .inl hb, rfl⟩
    · refine (burns_later w L s h hf h0).mono ?_
      rintro e _ ⟨rfl, rfl⟩
      have hd : s.due = false := by simp [DS.due, h0]
      have hb : s.burnt = { s with left := s.left - 1 } := by simp [DS.burnt, hf, h0]
      refine ⟨by rw [hd], ⟨?_, rfl, ?_, fun b hb => .inl hb, rfl⟩⟩
      · refine h.put (DS.burnt_wf h.wf) rfl rfl rfl rfl ?_ ?_ ?_ ?_ ?_ h.kn
        · rw [hb]
        · rw [hb]
          have : ((s.left - 1 : Nat) : Int) = (s.left : Int) - 1 := by omega
          simp only [DS.cells, this]; rfl
        · rw [hb]
        · rw [hb]
        · rw [hb]
          exact ownN_fr h.hw (Fr.setCell (S := fun b => b = L.gd) Fr.refl (fun _ => rfl) _) (fun _ e => h.w_gd e)
      · exact (Fr.setCell (S := L.blocks) Fr.refl (fun _ => .inl rfl) _)
  · have hf : s.fset = false := by simpa using hf
    refine (burns_off w L s h hf).mono ?_
    rintro e _ ⟨rfl, rfl⟩
    have hd : s.due = false := by simp [DS.due, hf]
    have hb : s.burnt = s := by simp [DS.burnt, hf]
    exact ⟨by rw [hd], by rw [hb]; exact h, rfl, Fr.refl, fun b hb => .inl hb, rfl⟩
end Go.Proofs.YthdlljlcffokbaaDoor
namespace Go.Proofs.YthdlljlcffokbaaDoor
open Go.RowKit

theorem alive_ok (w : World) (L : DL) (s : DS) (h : DkAt w L s) (hd : s.dead = false) : Calls Tryd.prog 34 #[.pointer (some ⟨L.gd, 0, none⟩)] w fun e w' => e = .returned (.int .i64 0) ∧ w = w' :=
  (alive_any w L.gd false (by rw [← hd]; exact h.c4)).mono fun _ _ h => ⟨h.1, h.2⟩
theorem flatW_snoc (l : List (Nat × List UInt8)) (x : Nat × List UInt8) : flatW (l ++ [x]) = flatW l ++ wcells x := by simp [flatW]
theorem put_two (Z bs : List Value) (x : Value) (h : Z.length = 1 + bs.length) : put (put Z 0 [x]) 1 bs = x :: bs := by
  unfold put
  have : (Z.drop 1).drop bs.length = [] := List.drop_of_length_le (by rw [List.length_drop]; omega)
  simp only [List.take_zero, List.nil_append, List.length_cons, List.length_nil, Nat.zero_add, List.cons_append, List.take_succ_cons]
  rw [show 1 + bs.length = bs.length + 1 by omega, List.drop_succ_cons, this]
  simp
theorem built_write (i : Nat) (b : List UInt8) (hb : b.length = 128) : Tryd.prog.built 107 [(0, .int .i64 (i : Int)), (1, .agg (bvs b).toArray)] = some (wcells (i, b)).toArray := by
  have h0 : Tryd.prog.built 107 [(0, .int .i64 (i : Int)), (1, .agg (bvs b).toArray)] = Instr.fill (#[(0, 1), (1, 128)][·]?) (wcells (0, zsec)).toArray [(0, .int .i64 (i : Int)), (1, .agg (bvs b).toArray)] := by kernel_rfl
  have hl : (bvs b).length = 128 := by rw [bvs_length, hb]
  have hz : (wcells (0, zsec)).length = 129 := by
    unfold wcells; rw [List.length_cons, bvs_length, zsec_length]
  generalize wcells (0, zsec) = Z at *
  have hp1 : (put Z 0 [.int .i64 (i : Int)]).length = 129 := by rw [put_length _ _ _ (by simp [hz]), hz]
  rw [h0, fill_cons _ _ 0 0 _ [.int .i64 (i : Int)] _ rfl rfl (by simp [hz]), fill_cons _ _ 1 1 _ (bvs b) _ rfl (by rw [hl]; rfl) (by rw [hp1, hl]; decide), put_two Z (bvs b) _ (by omega)]
  rfl
theorem Rd.someA {w : World} {A : Option Addr} {n : Nat} {xs : List Value} (h : Rd w A n xs) (hn : 0 < n) : ∃ b off, A = some ⟨b, off, none⟩ := by
  obtain ⟨b, off, e, _⟩ := h.2 hn
  exact ⟨b, off, e⟩
theorem own_cells {w : World} {base size n : Nat} {e : TypeId} {v : Value} {xs : List Value} (h : w.ownsRow base e size v n xs) : v.cells = #[v] := by
  rcases h.2 with ⟨rfl, _⟩ | ⟨g, cap, cur, rfl, _⟩ <;> rfl
theorem own_one {w : World} {base size n : Nat} {e : TypeId} {v : Value} {xs : List Value} (h : w.ownsRow base e size v n xs) : v.oneCell' = true := by
  rcases h.2 with ⟨rfl, _⟩ | ⟨g, cap, cur, rfl, _⟩ <;> rfl
set_option maxHeartbeats 4000000 in
/-- From behind 'burns' on. -/
theorem write_ok (i : Nat) (b : List UInt8) (A : Option Addr) (cap : Nat) (w : World) (L : DL) (s : DS) (h : DkAt w L s) (hd : s.dead = false) (hi : i < s.lasts.length) (hb : b.length = 128) (hr : Rd w A 128 (bvs b))
    (hnb : ∀ g off, A = some ⟨g, off, none⟩ → ¬ L.blocks g) (hwm : s.waits.length ≤ 1073741824) (hdm : s.done ≤ 1073741824) :
    Calls Tryd.prog 60 #[.pointer (some ⟨L.gd, 0, none⟩), .int .i64 (i : Int), .slice A 128 cap] w fun e w' => ∃ L', e = .returned (.int .i64 (s.writes i b).2) ∧ DkTo w w' L L' (s.writes i b).1 := by
  obtain ⟨ab, aoff, rfl⟩ := hr.someA (by omega)
  have hnb := hnb ab aoff rfl
  obtain ⟨lA, lc, evl, hlc, _, _⟩ := ownN_form h.hl
  have c0 : Cell w.heap L.gd 0 (.slice lA s.lasts.length lc) := h.hd.c 0 (by rw [← evl]; rfl)
  refine sx_enter (vs := [_, _, _]) Tryd.func60 rfl Tryd.ntmps60 rfl ?_
  refine sx_seq ?_
  refine sx_region ?_
  refine sxl_y (wn_none rfl) rfl rfl (yp rfl) ?_
  refine sxl_nil ?_
  refine qx_seq ?_
  refine sx_seq ?_
  refine sx_seq ?_
  refine sx_region ?_
  refine sxl_y (wn_none rfl) rfl rfl (yp rfl) ?_
  refine sxl_call (some 10) (wn_none rfl) rfl rfl (yc_call rfl rfl Tryd.call34) (alive_ok w L s h hd) ?_
  rintro _ _ ⟨rfl, rfl⟩
  refine ⟨_, rfl, ?_⟩
  refine sxl_y (wn_none rfl) rfl rfl (yp rfl) ?_
  refine sxl_nil ?_
  refine qx_seq ?_
  refine sx_seq ?_
  refine sx_region ?_
  refine sxl_y (wn_none rfl) rfl rfl (yp rfl) ?_
  refine sxl_y (wn_none rfl) rfl rfl (y_neq_f rfl rfl rfl (by omega)) ?_
  refine sxl_nil ?_
  refine qx_seq ?_
  refine sx_false rfl ?_
  refine sx_skip ?_
  refine qx_seq ?_
  refine sx_seq ?_
  refine sx_seq ?_
  refine sx_region ?_
  refine sxl_y (wn_none rfl) rfl rfl (yp rfl) ?_
  refine sxl_y (wn_none rfl) rfl rfl (y_lss_f rfl rfl rfl (by omega)) ?_
  refine sxl_y (wn_none rfl) rfl rfl (yp rfl) ?_
  refine sxl_y (wn_on rfl rfl rfl) rfl rfl (yp rfl) ?_
  refine sxl_y (wn_on rfl rfl rfl) rfl rfl (yp rfl) ?_
  refine sxl_y (wn_on rfl rfl rfl) rfl rfl (yp rfl) ?_
  refine sxl_y (wn_on rfl rfl rfl) rfl rfl (yp rfl) ?_
  refine sxl_y (wn_on rfl rfl rfl) rfl rfl (y_load rfl rfl (sc rfl) (by assumption)) ?_
  refine sxl_y (wn_on rfl rfl rfl) rfl rfl (y_len rfl rfl (sl rfl)) ?_
  refine sxl_y (wn_on rfl rfl rfl) rfl rfl (y_geq_f rfl rfl rfl (by omega)) ?_
  iterate 2 refine sxl_y (wn_none rfl) rfl rfl (yp rfl) ?_
  refine sxl_y (wn_on rfl rfl rfl) rfl rfl (yp rfl) ?_
  refine sxl_y (wn_on rfl rfl rfl) rfl rfl (y_len rfl rfl (sl rfl)) ?_
  refine sxl_y (wn_on rfl rfl rfl) rfl rfl (y_neq_f rfl rfl rfl (by omega)) ?_
  refine sxl_y (wn_none rfl) rfl rfl (yp rfl) ?_
  refine sxl_nil ?_
  refine qx_seq ?_
  refine sx_false rfl ?_
  refine sx_skip ?_
  refine qx_seq ?_
  refine sx_seq ?_
  refine sx_region ?_
  refine sxl_y (wn_none rfl) rfl rfl (yp rfl) ?_
  refine sxl_call (some 31) (wn_none rfl) rfl rfl (yc_call rfl rfl Tryd.call65) (burns_any w L s h) ?_
  rintro _ w1 ⟨rfl, h1⟩
  refine ⟨_, rfl, ?_⟩
  have hd1 := h1.dk
  have hr1 := hr.fr h1.fr (fun _ b' o' e => by injection e with e; injection e with e1 _ _; subst e1; exact hnb)
  have hsl : s.burnt.lasts = s.lasts := by unfold DS.burnt; split <;> rfl
  have hsw : s.burnt.waits = s.waits := by unfold DS.burnt; split <;> rfl
  have hss : s.burnt.shows = s.shows := by unfold DS.burnt; split <;> rfl
  have hsd : s.burnt.done = s.done := by unfold DS.burnt; split <;> rfl
  generalize hs1 : s.burnt = s1 at *
  obtain ⟨vA, vc, evw, hvc, _, _⟩ := ownN_form hd1.hw
  have c2 : Cell w1.heap L.gd 2 (.slice vA s1.waits.length vc) := hd1.hd.c 2 (by rw [← evw]; rfl)
  refine sxl_y (wn_none rfl) rfl rfl (yp rfl) ?_
  refine sxl_nil ?_
  refine qx_seq ?_
  refine sx_seq ?_
  refine sx_any 12 (fun w' => Cell w'.heap L.gd 2 (.slice vA s1.waits.length vc) ∧ Rd w' (some ⟨ab, aoff, none⟩) 128 (bvs b)) hmix ?_
  have HS : Cell w1.drew.heap L.gd 2 (.slice vA s1.waits.length vc) ∧ Rd w1.drew (some ⟨ab, aoff, none⟩) 128 (bvs b) := ⟨c2, hr1⟩
  refine sxo_y 0 10 (by kernel_rfl) (fun c a t v w h => by cases t <;> exact h) (by kernel_rfl) rfl (by kernel_rfl) (by kernel_rfl) rfl (wn_none rfl) rfl rfl HS (fun w' hS' => yp rfl) ?_
  refine sxo_y 1 10 (by kernel_rfl) (fun c a t v w h => by cases t <;> exact h) (by kernel_rfl) rfl (by kernel_rfl) (by kernel_rfl) rfl (wn_none rfl) rfl rfl HS (fun w' hS' => yp rfl) ?_
  refine sxo_y 2 10 (by kernel_rfl) (fun c a t v w h => by cases t <;> exact h) (by kernel_rfl) rfl (by kernel_rfl) (by kernel_rfl) rfl (wn_none rfl) rfl rfl HS (fun w' hS' => yp rfl) ?_
  refine sxo_y 3 10 (by kernel_rfl) (fun c a t v w h => by cases t <;> exact h) (by kernel_rfl) rfl (by kernel_rfl) (by kernel_rfl) rfl (wn_none rfl) rfl rfl HS (fun w' hS' => yp rfl) ?_
  refine sxo_y 4 10 (by kernel_rfl) (fun c a t v w h => by cases t <;> exact h) (by kernel_rfl) rfl (by kernel_rfl) (by kernel_rfl) rfl (wn_none rfl) rfl rfl HS (fun w' hS' => y_load rfl rfl (sc rfl) (by obtain ⟨s1, s2⟩ := hS'; assumption)) ?_
  refine sxo_y 5 10 (by kernel_rfl) (fun c a t v w h => by cases t <;> exact h) (by kernel_rfl) rfl (by kernel_rfl) (by kernel_rfl) rfl (wn_none rfl) rfl rfl HS (fun w' hS' => yp rfl) ?_
  refine sxo_y 6 10 (by kernel_rfl) (fun c a t v w h => by cases t <;> exact h) (by kernel_rfl) rfl (by kernel_rfl) (by kernel_rfl) rfl (wn_none rfl) rfl rfl HS (fun w' hS' => yp rfl) ?_
  refine sxo_y 7 10 (by kernel_rfl) (fun c a t v w h => by cases t <;> exact h) (by kernel_rfl) rfl (by kernel_rfl) (by kernel_rfl) rfl (wn_none rfl) rfl rfl HS (fun w' hS' => y_arrayAt rfl rfl (ar rfl) (by omega)) ?_
  refine sxo_y 8 10 (by kernel_rfl) (fun c a t v w h => by cases t <;> exact h) (by kernel_rfl) rfl (by kernel_rfl) (by kernel_rfl) rfl (wn_none rfl) rfl rfl HS (fun w' hS' => y_loadRd rfl rfl hS'.2 Tryd.underlying90 rfl size_sec) ?_
  refine sxo_y 9 10 (by kernel_rfl) (fun c a t v w h => by cases t <;> exact h) (by kernel_rfl) rfl (by kernel_rfl) (by kernel_rfl) rfl (wn_none rfl) rfl rfl HS (fun w' hS' => y_build rfl rfl (built_write i b hb)) ?_
  have hwb : (wcells (i, b)).length = 129 := by unfold wcells; rw [List.length_cons, bvs_length, hb]
  refine sxo_does 10 (some 42) (by kernel_rfl) rfl (wn_none rfl) rfl rfl (fun ρ hρ => does_slice (size := 129) [.agg (wcells (i, b)).toArray] (.agg (wcells (0, zsec)).toArray) hρ rfl rfl rfl rfl Tryd.underlying74 (by kernel_rfl) (by decide) (by decide) (by intro v hv; obtain rfl : v = _ := (by simpa using hv); simp [Value.cells, hwb])) ?_
  rintro _ w2 ⟨g2, rfl, hg2, hg2', hb2, hf2⟩
  have hb2 : Blk w2 g2 107 (wcells (i, b)) := by simpa [Value.cells] using hb2
  refine ⟨fun _ => ⟨c2.fr hf2.ofDrew (fun hh => hh), hr1.fr0 hf2.ofDrew⟩, ?_⟩
  have hd2 := hd1.fr0 hf2.ofDrew
  have hlw := flatW_length (fun y hy => (hd1.wf.aw y hy).2)
  refine sxo_does 11 (some 43) (by kernel_rfl) rfl (wn_none rfl) rfl rfl (fun ρ hρ => does_appendN (.tmp 36) (.tmp 42) 74 rfl 0 107 _ 129 136 Tryd.underlying74 write_info (by kernel_rfl) (by omega) L.vw s1.waits.length (flatW s1.waits) (by rw [hρ _ _ rfl, evw]) hd2.hw (some ⟨g2, 0, none⟩) 1 1 (wcells (i, b)) (hρ _ _ rfl)
    (by have := Rd.of_blk hb2 0 (n := 129) (by omega); rwa [List.drop_zero, List.take_of_length_le (by omega)] at this) (wcells_one _) (by unfold maxLen; rw [hsw]; omega) (by rw [hsw]; omega) (Nat.zero_le _)) ?_
  rintro v3 w3 ⟨ho3, hg3, hv3⟩
  have hf3 : Fr (fun k => L.vw.ownBlock = some k) w2 w3 := Fr.grown (S := fun k => L.vw.ownBlock = some k) Fr.refl hg3 (fun k e _ => e)
  have hrr : Rd w3 (some ⟨ab, aoff, none⟩) 128 (bvs b) := (hr1.fr0 hf2.ofDrew).fr hf3 (fun _ b' o' e e' => by injection e with e; injection e with e1 _ _; subst e1; exact hnb (.inr (.inr (.inr e'))))
  refine ⟨fun _ => ⟨(c2.fr hf2.ofDrew (fun hh => hh)).fr hf3 (fun e => hd1.w_gd e rfl), hrr⟩, ?_⟩
  refine sxo_seq 12 (by kernel_rfl) rfl rfl (by kernel_rfl) ?_
  iterate 2 refine sxl_y (wn_none rfl) rfl rfl (yp rfl) ?_
  have hd3 := hd2.hd.fr hf3 (fun e => hd1.w_gd e rfl)
  refine sxl_does none (wn_none rfl) rfl rfl (fun ρ hρ => does_store1 74 (.tmp 45) (.tmp 43) rfl L.gd 2 78 _ v3 (hρ _ _ rfl) (hρ _ _ rfl) (own_cells ho3) hd3 (by kernel_rfl) (by simp [DS.cells]) (own_one ho3)) ?_
  rintro _ w4 ⟨rfl, hb4, hf4⟩
  obtain ⟨gs, cs, rs, evs, _, hcs, hcsm, hbs, hls⟩ := ownN_blk hd1.hs hd1.wf.pos
  have hgs : L.vs.ownBlock = some gs := by rw [evs]; rfl
  have hgsd := hd1.s_gd hgs
  have hgsw : ¬ L.vw.ownBlock = some gs := fun e => hd1.w_s e hgs rfl
  have c1 : Cell w4.heap L.gd 1 (.slice (some ⟨gs, 0, none⟩) s1.lasts.length cs) := hb4.c 1 (by rw [← evs]; rfl)
  have hr4 := hrr.fr hf4 (fun _ b' o' e e' => by injection e with e; injection e with e1 _ _; subst e1; exact hnb (.inl e'))
  have hbs4 := ((hbs.fr0 hf2.ofDrew).fr hf3 hgsw).fr hf4 hgsd
  have hfs := flatB_length hd1.wf.ash
  rw [hd1.wf.sl] at hfs
  rw [← hsl] at hi
  have hi1 : (i + 1) * 128 ≤ s1.lasts.length * 128 := Nat.mul_le_mul_right _ hi
  refine sxl_nil ?_
  refine qx_seq ?_
  refine sx_seq ?_
  refine sx_tail 9 hmix (by kernel_rfl) ?_
  iterate 3 refine sxs_y (wn_none rfl) rfl rfl (yp rfl) ?_
  refine sxs_y (wn_none rfl) rfl rfl (y_load rfl rfl (sc rfl) (by assumption)) ?_
  iterate 2 refine sxs_y (wn_none rfl) rfl rfl (yp rfl) ?_
  refine sxs_y (wn_none rfl) rfl rfl (y_arrayAt rfl rfl (ar rfl) (by omega)) ?_
  refine sxs_y (wn_none rfl) rfl rfl (y_loadRd rfl rfl hr4.drew Tryd.underlying90 rfl size_sec) ?_
  refine sxs_y (wn_none rfl) rfl rfl (y_indexN rfl rfl rfl (sl rfl) (by omega)) ?_
  refine sxs_tail ?_
  refine sxl_does none (wn_none rfl) rfl rfl (fun ρ hρ => does_store 90 (.tmp 54) (.tmp 53) rfl gs (i * 128) 90 (flatB s1.shows ++ rs) (bvs b) (by rw [hρ _ _ rfl, Nat.zero_add]) (hρ _ _ rfl) hbs4.drew (by rw [bvs_length, hb]; exact size_sec) (by rw [List.length_append, hfs, bvs_length, hb]; omega) (bvs_one _)) ?_
  rintro _ w5 ⟨rfl, hb5, hf5⟩
  rw [put_front _ _ _ _ (by rw [bvs_length, hb, hfs]; omega), flatB_put hd1.wf.ash (by rw [hd1.wf.sl]; exact hi) _ hb] at hb5
  have hf5 := hf5.ofDrew
  have hv3' : ∀ k, v3.ownBlock = some k → L.vw.ownBlock = some k ∨ w2.heap.size ≤ k := fun k e => by
    rcases hv3 with h' | h'
    · left; rw [← h']; exact e
    · right; rw [h'] at e; injection e with e; omega
  have hz2 := hf2.ofDrew.size
  have hgdl := hd1.hd.lt
  have hgsl := hbs.lt
  have hf15 : Fr (fun k => L.vw.ownBlock = some k ∨ k = L.gd ∨ k = gs) w1 w5 :=
    (((Fr.of0 hf2.ofDrew).step hf3 (fun _ _ e => .inl e)).step hf4 (fun _ _ e => .inr (.inl e))).step hf5 (fun _ _ e => .inr (.inr e))
  have hto : DkTo w w5 L { L with vw := v3 } (s1.put i b) := by
    refine h1.trans ⟨⟨DS.put_wf hd1.wf hi hb, ?_, ?_, ?_, ?_, ?_, hd1.ne, ?_⟩, rfl, hf15.mono ?_, ?_, rfl⟩
    · exact hb4.fr hf5 (fun e => hgsd e.symm)
    · exact ownN_fr hd1.hl hf15 (fun k hk e => by
        rcases e with e | e | e
        · exact hd1.w_l e hk rfl
        · exact hd1.l_gd hk e
        · exact hd1.l_s hk hgs e)
    · show w5.ownsRow 0 90 128 L.vs s1.lasts.length (flatB (s1.shows.set i b))
      rw [evs]
      exact ownN_of_blk hb5 (Nat.zero_le _) hcs hcsm (by rw [← hls, List.length_append, List.length_append, flatB_length (hd1.wf.ash.set i hb), List.length_set, hfs, hd1.wf.sl]) (by rw [flatB_length (hd1.wf.ash.set i hb), List.length_set, hd1.wf.sl])
    · have e1 : (s1.put i b).waits.length = s1.waits.length + 1 := by simp [DS.put]
      have e2 : flatW (s1.put i b).waits = flatW s1.waits ++ wcells (i, b) := flatW_snoc _ _
      rw [e1, e2]
      refine ownN_fr (ownN_fr ho3 hf4 (fun k hk e => ?_)) hf5 (fun k hk e => ?_)
      · rcases hv3' k hk with e' | e'
        · exact hd1.w_gd e' e
        · omega
      · rcases hv3' k hk with e' | e'
        · exact hd1.w_s e' hgs e
        · omega
    · exact hd1.hk.fr hf15 (fun hp b' off e e' => hd1.kn hp b' off e (by
        rcases e' with e' | e' | e'
        · exact .inr (.inr (.inr e'))
        · exact .inl e'
        · subst e'; exact .inr (.inr (.inl hgs))))
    · intro hp b' off e hbl
      rcases hbl with hbl | hbl | hbl | hbl
      · exact hd1.kn hp b' off e (.inl hbl)
      · exact hd1.kn hp b' off e (.inr (.inl hbl))
      · exact hd1.kn hp b' off e (.inr (.inr (.inl hbl)))
      · rcases hv3' b' hbl with e' | e'
        · exact hd1.kn hp b' off e (.inr (.inr (.inr e')))
        · have := hd1.hk.lt hp b' off e; omega
    · intro k _ e
      rcases e with e | e | e
      · exact .inr (.inr (.inr e))
      · exact .inl e
      · subst e; exact .inr (.inr (.inl hgs))
    · intro k hk
      rcases hk with hk | hk | hk | hk
      · exact .inl (.inl hk)
      · exact .inl (.inr (.inl hk))
      · exact .inl (.inr (.inr (.inl hk)))
      · rcases hv3' k hk with e' | e'
        · exact .inl (.inr (.inr (.inr e')))
        · right; omega
  clear hb5 hb4 hbs4 hr4 hrr ho3 hd3 hd2 hb2 c1 c2 hbs hls hd1 hf15
  have hd5 := hto.dk
  by_cases hdue : s.due = true
  · rw [hdue]
    obtain rfl : s = s1 := by rw [← hs1, DS.burnt_due hdue]
    refine sxl_nil ?_
    refine qx_seq ?_
    refine sx_seq ?_
    refine sx_seq ?_
    refine sx_region ?_
    refine sxl_y (wn_none rfl) rfl rfl (yp rfl) ?_
    refine sxl_nil ?_
    refine qx_seq ?_
    refine sx_true rfl ?_
    refine sx_seq ?_
    refine sx_region ?_
    iterate 5 refine sxl_y (wn_none rfl) rfl rfl (yp rfl) ?_
    refine sxl_y (wn_none rfl) rfl rfl (y_loadB rfl rfl hd5.hd Tryd.underlying25 rfl plan_size (by simp [DS.cells])) ?_
    refine sxl_call (some 62) (wn_none rfl) rfl rfl (yc_call rfl rfl Tryd.call41) (crash_any w5 { L with vw := v3 } (s.put i b) hd5 L.kA L.kc s.keep s.torn s.cut hd5.hk hd5.kn hd5.wf.cut) ?_
    rintro _ w6 ⟨rfl, h6, hf6⟩
    refine ⟨_, rfl, ?_⟩
    refine sxl_nil ?_
    refine qx_seq ?_
    refine sx_seq ?_
    refine sx_region ?_
    refine sxl_y (wn_none rfl) rfl rfl (yp rfl) ?_
    refine sxl_nil ?_
    refine qx_seq ?_
    refine sx_ret ?_
    refine qx_then_ret ?_
    refine qx_ret1 rfl rfl ?_
    have e : s.writes i b = ((s.put i b).crash s.keep s.torn s.cut, 20) := by unfold DS.writes; rw [if_pos hdue, DS.burnt_due hdue]
    rw [e]
    exact ⟨_, rfl, hto.crash h6 hf6⟩
  · have hdue : s.due = false := by simpa using hdue
    rw [hdue]
    have c3 : Cell w5.heap L.gd 3 (.int .i64 (s1.done : Int)) := hd5.hd.c 3 rfl
    have hdm1 : s1.done ≤ 1073741824 := by omega
    refine sxl_nil ?_
    refine qx_seq ?_
    refine sx_seq ?_
    refine sx_seq ?_
    refine sx_region ?_
    refine sxl_y (wn_none rfl) rfl rfl (yp rfl) ?_
    refine sxl_nil ?_
    refine qx_seq ?_
    refine sx_false rfl ?_
    refine sx_skip ?_
    refine qx_seq ?_
    refine sx_seq ?_
    refine sx_region ?_
    iterate 3 refine sxl_y (wn_none rfl) rfl rfl (yp rfl) ?_
    refine sxl_y (wn_none rfl) rfl rfl (y_load rfl rfl (sc rfl) (by assumption)) ?_
    refine sxl_y (wn_none rfl) rfl rfl (y_add rfl rfl rfl (by omega)) ?_
    iterate 2 refine sxl_y (wn_none rfl) rfl rfl (yp rfl) ?_
    refine sxl_does none (wn_none rfl) rfl rfl (fun ρ hρ => does_store1 3 (.tmp 69) (.tmp 67) rfl L.gd 3 78 _ (.int .i64 ((s1.done + 1 : Nat) : Int)) (hρ _ _ rfl) (hρ _ _ rfl) rfl hd5.hd (by kernel_rfl) (by simp [DS.cells]) rfl) ?_
    rintro _ w6 ⟨rfl, hb6, hf6⟩
    refine sxl_nil ?_
    refine qx_seq ?_
    refine sx_seq ?_
    refine sx_region ?_
    refine sxl_y (wn_none rfl) rfl rfl (yp rfl) ?_
    refine sxl_nil ?_
    refine qx_seq ?_
    refine sx_ret ?_
    refine qx_ret1 rfl rfl ?_
    have e : s.writes i b = ((s1.put i b).more, 0) := by unfold DS.writes; rw [if_neg (by simp [hdue]), hs1]
    rw [e]
    exact ⟨_, rfl, hto.trans (hd5.upd (DS.more_wf hd5.wf) hb6 hf6 rfl rfl rfl rfl)⟩
end Go.Proofs.YthdlljlcffokbaaDoor
namespace Go.Proofs.YthdlljlcffokbaaDoor
open Go.RowKit

set_option maxHeartbeats 4000000 in
theorem flush_ok (w : World) (L : DL) (s : DS) (h : DkAt w L s) (hd : s.dead = false) (hdm : s.done ≤ 1073741824) :
    Calls Tryd.prog 58 #[.pointer (some ⟨L.gd, 0, none⟩)] w fun e w' => ∃ L', e = .returned (.int .i64 s.flushes.2) ∧ DkTo w w' L L' s.flushes.1 := by
  refine sx_enter (vs := [_]) Tryd.func58 rfl Tryd.ntmps58 rfl ?_
  refine sx_seq ?_
  refine sx_region ?_
  refine sxl_y (wn_none rfl) rfl rfl (yp rfl) ?_
  refine sxl_nil ?_
  refine qx_seq ?_
  refine sx_seq ?_
  refine sx_seq ?_
  refine sx_region ?_
  refine sxl_y (wn_none rfl) rfl rfl (yp rfl) ?_
  refine sxl_call (some 7) (wn_none rfl) rfl rfl (yc_call rfl rfl Tryd.call34) (alive_ok w L s h hd) ?_
  rintro _ _ ⟨rfl, rfl⟩
  refine ⟨_, rfl, ?_⟩
  refine sxl_y (wn_none rfl) rfl rfl (yp rfl) ?_
  refine sxl_nil ?_
  refine qx_seq ?_
  refine sx_seq ?_
  refine sx_region ?_
  refine sxl_y (wn_none rfl) rfl rfl (yp rfl) ?_
  refine sxl_y (wn_none rfl) rfl rfl (y_neq_f rfl rfl rfl (by omega)) ?_
  refine sxl_nil ?_
  refine qx_seq ?_
  refine sx_false rfl ?_
  refine sx_skip ?_
  refine qx_seq ?_
  refine sx_seq ?_
  refine sx_seq ?_
  refine sx_region ?_
  refine sxl_y (wn_none rfl) rfl rfl (yp rfl) ?_
  refine sxl_call (some 12) (wn_none rfl) rfl rfl (yc_call rfl rfl Tryd.call65) (burns_any w L s h) ?_
  rintro _ w1 ⟨rfl, h1⟩
  refine ⟨_, rfl, ?_⟩
  have hd1 := h1.dk
  by_cases hdue : s.due = true
  · rw [hdue]
    rw [DS.burnt_due hdue] at hd1 h1
    refine sxl_nil ?_
    refine qx_seq ?_
    refine sx_true rfl ?_
    refine sx_seq ?_
    refine sx_region ?_
    iterate 5 refine sxl_y (wn_none rfl) rfl rfl (yp rfl) ?_
    refine sxl_y (wn_none rfl) rfl rfl (y_loadB rfl rfl hd1.hd Tryd.underlying25 rfl plan_size (by simp [DS.cells])) ?_
    refine sxl_call (some 19) (wn_none rfl) rfl rfl (yc_call rfl rfl Tryd.call41) (crash_any w1 L s hd1 L.kA L.kc s.keep s.torn s.cut hd1.hk hd1.kn hd1.wf.cut) ?_
    rintro _ w6 ⟨rfl, h6, hf6⟩
    refine ⟨_, rfl, ?_⟩
    refine sxl_nil ?_
    refine qx_seq ?_
    refine sx_seq ?_
    refine sx_region ?_
    refine sxl_y (wn_none rfl) rfl rfl (yp rfl) ?_
    refine sxl_nil ?_
    refine qx_seq ?_
    refine sx_ret ?_
    refine qx_then_ret ?_
    refine qx_ret1 rfl rfl ?_
    have e : s.flushes = (s.crash s.keep s.torn s.cut, 20) := by unfold DS.flushes; rw [if_pos hdue]
    rw [e]
    exact ⟨_, rfl, h1.crash h6 hf6⟩
  have hdue : s.due = false := by simpa using hdue
  rw [hdue]
  have e : s.flushes = (s.burnt.flush, 0) := by unfold DS.flushes; rw [if_neg (by simp [hdue])]
  rw [e]
  have hsd : s.burnt.done = s.done := by unfold DS.burnt; split <;> rfl
  rw [← hsd] at hdm
  clear h e hsd hdue hd
  generalize s.burnt = s at *
  have h := hd1
  obtain ⟨gl, cl, rl, evl, _, hcl, hcm, hbl, hll⟩ := ownN_blk h.hl h.wf.pos
  obtain ⟨wA, wc, evw, hwc, hwr, _, _⟩ := ownN_form h.hw
  have hgl : L.vl.ownBlock = some gl := by rw [evl]; rfl
  have hgl1 := h.l_gd hgl
  have hgl2 := h.hd.lt
  have hgl3 := (h.hl.lt gl hgl).2
  have hpos := h.wf.pos
  have hle := h.wf.le
  have hwlen := flatW_length (fun y hy => (h.wf.aw y hy).2)
  have q2 : Cell w1.heap L.gd 2 (.slice wA s.waits.length wc) := h.hd.c 2 (by rw [← evw]; rfl)
  refine sxl_nil ?_
  refine qx_seq ?_
  refine sx_false rfl ?_
  refine sx_skip ?_
  refine qx_seq ?_
  refine sx_seq ?_
  refine sx_seq ?_
  refine sx_region ?_
  iterate 3 refine sxl_y (wn_none rfl) rfl rfl (yp rfl) ?_
  refine sxl_y (wn_none rfl) rfl rfl (y_load rfl rfl (sc rfl) (by assumption)) ?_
  refine sxl_y (wn_none rfl) rfl rfl (y_len rfl rfl (sl rfl)) ?_
  refine sxl_y (wn_none rfl) rfl rfl (yp rfl) ?_
  refine sxl_nil ?_
  refine qx_seq ?_
  refine sx_block ?_
  refine sx_loop (fun e wr m => ∃ (k : Nat) (l : List (List UInt8)), e = [(25, .int .i64 (k : Int)), (0, .pointer (some ⟨L.gd, 0, none⟩)), (23, .slice wA s.waits.length wc), (24, .int .i64 (s.waits.length : Int))]
      ∧ k ≤ s.waits.length ∧ Blk wr gl 90 (flatB l ++ rl) ∧ All 128 l ∧ l.length = s.lasts.length ∧ flushAll (s.waits.drop k) l = flushAll s.waits s.lasts ∧ Fr (fun b => b = gl) w1 wr ∧ m = s.waits.length - k)
    ⟨0, s.lasts, rfl, Nat.zero_le _, hbl, h.wf.al, rfl, rfl, Fr.refl, rfl⟩ ⟨rfl, rfl, rfl, rfl, trivial⟩ ?_
  rintro _ wr _ ⟨k, l, rfl, hkw, hb, hal, hln, hcr, hfr, rfl⟩
  have hzr := hfr.size
  by_cases hlt : k < s.waits.length
  · obtain ⟨x, hx⟩ : ∃ x, s.waits[k]? = some x := ⟨_, List.getElem?_eq_getElem hlt⟩
    obtain ⟨hx1, hx2⟩ := h.wf.aw x (List.mem_of_getElem? hx)
    obtain ⟨gw, cw, rw', evw', _, hwc1, hwc2, hbw, _⟩ := ownN_blk h.hw (by omega)
    unfold maxLen at hwc2
    have hgwl := h.w_l (b := gw) (by rw [evw']; rfl) hgl
    have hgw := hbw.lt
    rw [evw'] at evw
    injection evw with e1 _ e2
    subst e1 e2
    have hwx : (wcells x).length = 129 := by simp [wcells, bvs_length, hx2]
    have hk1 : (k + 1) * 129 ≤ s.waits.length * 129 := Nat.mul_le_mul_right _ hlt
    have hld : ((flatW s.waits ++ rw').drop (k * 129)).take 129 = wcells x := by
      rw [List.drop_append_of_le_length (by rw [hwlen]; omega), List.take_append_of_le_length (by rw [List.length_drop, hwlen]; omega)]
      exact flatW_at (fun y hy => (h.wf.aw y hy).2) hx
    have hbw2 := hbw.fr hfr hgwl
    refine sx_seq ?_
    refine sx_region ?_
    refine sxl_y (wn_none rfl) rfl rfl (y_lss_t rfl rfl rfl (by omega)) ?_
    refine sxl_nil ?_
    refine qx_seq ?_
    refine sx_seq ?_
    refine sx_true rfl ?_
    refine sx_skip ?_
    refine qx_seq ?_
    refine sx_seq ?_
    refine sx_block ?_
    refine sx_seq ?_
    refine sx_region ?_
    refine sxl_y (wn_none rfl) rfl rfl (y_indexN rfl rfl rfl (sl rfl) (by omega)) ?_
    refine sxl_does (some 28) (wn_none rfl) rfl rfl (fun ρ hρ => does_load 107 (.tmp 27) rfl gw (k * 129) 129 107 (flatW s.waits ++ rw') _ (by rw [hρ _ _ rfl, Nat.zero_add]) hbw2 Tryd.underlying107 rfl size_write (by rw [List.length_append, hwlen]; omega)) ?_
    rintro _ _ ⟨rfl, rfl⟩
    rw [hld]
    refine sxl_does (some 5) (wn_none rfl) rfl rfl (fun ρ hρ => does_alloc 107 rfl _ (wcells (0, zsec)) (zero_write) rfl) ?_
    rintro _ w5 ⟨g6, rfl, h6, h6', hb6, hf6⟩
    refine sxl_does none (wn_none rfl) rfl rfl (fun ρ hρ => does_store 107 (.tmp 5) (.tmp 28) rfl g6 0 107 (wcells (0, zsec)) (wcells x) (hρ _ _ rfl) (hρ _ _ rfl) hb6 (by rw [hwx]; exact size_write) (by rw [hwx]; exact Nat.le_refl _) (wcells_one x)) ?_
    rintro _ w6 ⟨rfl, hb6', hf6'⟩
    rw [put_all _ _ (by rw [hwx]; rfl)] at hb6'
    have hf : Fr (fun b => b = g6) wr w6 := (Fr.of0 hf6 : Fr (fun b => b = g6) wr w5).trans hf6'
    have hd6 := (h.hd.fr hfr (by omega)).fr hf (by have := h.hd.lt; omega)
    have c00 : Cell w6.heap L.gd 0 (.slice (some ⟨gl, 0, none⟩) s.lasts.length cl) := hd6.c 0 (by rw [← evl]; rfl)
    have c60 : Cell w6.heap g6 0 (.int .i64 (x.1 : Int)) := hb6'.c 0 rfl
    have hb6l := hb.fr hf (by omega)
    have hfl := flatB_length hal
    have hx1' : (x.1 + 1) * 128 ≤ l.length * 128 := Nat.mul_le_mul_right _ (by omega)
    have hdrop : s.waits.drop k = x :: s.waits.drop (k + 1) := by
      rw [List.drop_eq_getElem_cons hlt]; congr 1; exact (List.getElem?_eq_some_iff.1 hx).2
    rw [hdrop, flushAll] at hcr
    have hl65 : (((wcells x).drop 1).take 128) = bvs x.2 := by
      have : (bvs x.2).length ≤ 128 := by rw [bvs_length, hx2]; exact Nat.le_refl _
      simpa [wcells] using List.take_of_length_le this
    refine sxl_nil ?_
    refine qx_seq ?_
    refine sx_tail 9 hmix (by kernel_rfl) ?_
    iterate 3 refine sxs_y (wn_none rfl) rfl rfl (yp rfl) ?_
    refine sxs_y (wn_none rfl) rfl rfl (y_load rfl rfl (sc rfl) (by assumption)) ?_
    refine sxs_y (wn_none rfl) rfl rfl (yp rfl) ?_
    refine sxs_y (wn_none rfl) rfl rfl (y_load rfl rfl (sc rfl) (by assumption)) ?_
    refine sxs_y (wn_none rfl) rfl rfl (yp rfl) ?_
    refine sxs_y (wn_none rfl) rfl rfl (y_loadB rfl rfl hb6'.drew Tryd.underlying90 rfl size_sec (by rw [hwx]; exact Nat.le_refl _)) ?_
    refine sxs_y (wn_none rfl) rfl rfl (y_indexN rfl rfl rfl (sl rfl) (by omega)) ?_
    refine sxs_tail ?_
    refine sxl_does none (wn_none rfl) rfl rfl (fun ρ hρ => does_store 90 (.tmp 37) (.tmp 36) rfl gl (x.1 * 128) 90 (flatB l ++ rl) (bvs x.2) (by rw [hρ _ _ rfl, Nat.zero_add]) (by rw [hρ _ _ rfl]; exact congrArg (fun z : List Value => Value.agg z.toArray) hl65) hb6l.drew (by rw [bvs_length, hx2]; exact size_sec) (by rw [List.length_append, hfl, bvs_length, hx2]; omega) (bvs_one _)) ?_
    rintro _ w7 ⟨rfl, hb7, hf7⟩
    rw [put_front _ _ _ _ (by rw [bvs_length, hx2, hfl]; omega), flatB_put hal (by omega) _ hx2] at hb7
    refine sxl_nil ?_
    refine qx_block_normal ?_
    refine qx_seq ?_
    refine sx_region ?_
    refine sxl_y (wn_none rfl) rfl rfl (y_add rfl rfl rfl (by omega)) ?_
    refine sxl_y (wn_none rfl) rfl rfl (yp rfl) ?_
    refine sxl_nil ?_
    refine qx_again [(25, .int .i64 ((k + 1 : Nat) : Int)), (0, .pointer (some ⟨L.gd, 0, none⟩)), (23, .slice (some ⟨gw, 0, none⟩) s.waits.length cw), (24, .int .i64 (s.waits.length : Int))] (s.waits.length - (k + 1)) ?_ ?_ ?_
    · exact ⟨k + 1, _, rfl, by omega, hb7, hal.set _ hx2, by rw [List.length_set]; omega, hcr, ((hfr.then0 hf6).step hf6' (fun b hb e => by omega)).step hf7.ofDrew (fun _ _ hh => hh), rfl⟩
    · omega
    · exact ⟨rfl, rfl, rfl, rfl, trivial⟩
  · obtain rfl : k = s.waits.length := by omega
    have hdr := h.hd.fr hfr (by omega)
    refine sx_seq ?_
    refine sx_region ?_
    refine sxl_y (wn_none rfl) rfl rfl (y_lss_f rfl rfl rfl (by omega)) ?_
    refine sxl_nil ?_
    refine qx_seq ?_
    refine sx_seq ?_
    refine sx_false rfl ?_
    refine sx_exit ?_
    refine qx_then_exit ?_
    refine qx_then_exit ?_
    refine qx_block_hit ?_
    refine qx_seq ?_
    refine sx_seq ?_
    refine sx_region ?_
    iterate 3 refine sxl_y (wn_none rfl) rfl rfl (yp rfl) ?_
    refine sxl_does none (wn_none rfl) rfl rfl (fun ρ hρ => does_store1 74 (.tmp 41) _ rfl L.gd 2 78 _ _ (hρ _ _ rfl) (hρ _ _ rfl) rfl hdr (by kernel_rfl) (by simp [DS.cells]) rfl) ?_
    rintro _ w8 ⟨rfl, hb8, hf8⟩
    have c3 : Cell w8.heap L.gd 3 (.int .i64 (s.done : Int)) := hb8.c 3 rfl
    refine sxl_nil ?_
    refine qx_seq ?_
    refine sx_seq ?_
    refine sx_region ?_
    iterate 3 refine sxl_y (wn_none rfl) rfl rfl (yp rfl) ?_
    refine sxl_y (wn_none rfl) rfl rfl (y_load rfl rfl (sc rfl) (by assumption)) ?_
    refine sxl_y (wn_none rfl) rfl rfl (y_add rfl rfl rfl (by omega)) ?_
    iterate 2 refine sxl_y (wn_none rfl) rfl rfl (yp rfl) ?_
    refine sxl_does none (wn_none rfl) rfl rfl (fun ρ hρ => does_store1 3 (.tmp 48) (.tmp 46) rfl L.gd 3 78 _ (.int .i64 ((s.done + 1 : Nat) : Int)) (hρ _ _ rfl) (hρ _ _ rfl) rfl hb8 (by kernel_rfl) (by simp [DS.cells]) rfl) ?_
    rintro _ w9 ⟨rfl, hb9, hf9⟩
    refine sxl_nil ?_
    refine qx_seq ?_
    refine sx_seq ?_
    refine sx_region ?_
    refine sxl_y (wn_none rfl) rfl rfl (yp rfl) ?_
    refine sxl_nil ?_
    refine qx_seq ?_
    refine sx_ret ?_
    refine qx_ret1 rfl rfl ?_
    rw [List.drop_length, flushAll] at hcr
    have hcl' : s.flush.lasts.length = s.lasts.length := flushAll_length ..
    have hcl2 : s.flush.lasts = l := hcr.symm
    have hf19 : Fr (fun b => b = gl ∨ b = L.gd) w1 w9 := (((hfr.mono (fun _ _ e => .inl e)).step hf8 (fun _ _ e => .inr e)).step hf9 (fun _ _ e => .inr e))
    have hbl9 := (hb.fr hf8 (by omega)).fr hf9 (by omega)
    refine ⟨{ L with vw := .slice none 0 0 }, rfl, h1.trans ⟨⟨DS.flush_wf h.wf, hb9, ?_, ?_, World.ownsRow_nil _ _ _ _, ?_, h.ne, ?_⟩, rfl, hf19.mono ?_, ?_, rfl⟩⟩
    · show w9.ownsRow 0 90 128 L.vl s.flush.lasts.length (flatB s.flush.lasts)
      rw [hcl', hcl2, evl]
      exact ownN_of_blk hbl9 (Nat.zero_le _) hcl hcm (by rw [← hll, List.length_append, List.length_append, flatB_length hal, flatB_length h.wf.al, hln]) (by rw [flatB_length hal, hln])
    · show w9.ownsRow 0 90 128 L.vs s.flush.lasts.length (flatB s.shows)
      rw [hcl']
      exact ownN_fr h.hs hf19 (fun b hb' e => by
        rcases e with e | e
        · exact h.l_s hgl hb' e.symm
        · exact h.s_gd hb' e)
    · exact h.hk.fr hf19 (fun hp b off e e' => h.kn hp b off e (by
        rcases e' with rfl | rfl
        · exact .inr (.inl hgl)
        · exact .inl rfl))
    · intro hp b off e hb
      refine h.kn hp b off e ?_
      rcases hb with hb | hb | hb | hb
      · exact .inl hb
      · exact .inr (.inl hb)
      · exact .inr (.inr (.inl hb))
      · cases hb
    · rintro b _ (rfl | rfl)
      · exact .inr (.inl hgl)
      · exact .inl rfl
    · intro b hb
      rcases hb with hb | hb | hb | hb
      · exact .inl (.inl hb)
      · exact .inl (.inr (.inl hb))
      · exact .inl (.inr (.inr (.inl hb)))
      · cases hb
end Go.Proofs.YthdlljlcffokbaaDoor
namespace Go.Proofs.YthdlljlcffokbaaDoor
open Go.RowKit

def DS.fuse (s : DS) (k : Nat) (keep : List Bool) (torn : Int) (cut : Nat) : DS := { s with fset := true, left := k, keep := keep, torn := torn, cut := cut }
/-- What a fuse leaves. -/
structure FuTo (w w' : World) (L L' : DL) (s' : DS) : Prop where
  dk : DkAt w' L' s'
  gd : L'.gd = L.gd
  vl : L'.vl = L.vl
  vs : L'.vs = L.vs
  vw : L'.vw = L.vw
  fr : Fr (fun b => b = L.gd) w w'
  kA : ∀ b off, L'.kA = some ⟨b, off, none⟩ → w.heap.size ≤ b
end Go.Proofs.YthdlljlcffokbaaDoor
