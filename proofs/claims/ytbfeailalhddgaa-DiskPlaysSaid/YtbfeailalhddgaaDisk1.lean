/- Contracts of disk.New and of what a disk tells. -/
import Derived.Test.YtbfeailalhddgaaDisk
import Derived.Test.YtbfeailalhddgaaSeq2
import Derived.WalkSpells
namespace Go.Proofs.Ytbfeailalhddgaa
open Go.RowKit

def zsec : List UInt8 := List.replicate 128 0
def newDS (n : Nat) : DS := { lasts := List.replicate n zsec, shows := List.replicate n zsec, waits := [], done := 0, dead := false, fset := false, left := 0, keep := [], torn := 0, cut := 0 }
theorem sec_info : (Try.prog.info? 65).map (fun i => (i.zero, i.size, i.bytes)) = some (some (.agg (bvs zsec).toArray), 128, 128) := by kernel_rfl

theorem new_arg (n : Int) (w : World) (h : n < 1 ∨ 65536 < n) :
    Calls Try.prog 7 #[.int .i64 n] w fun e w' => e = .returned (.tuple #[.pointer none, .int .i64 1]) ∧ w = w' := by
  by_cases h1 : n < 1
  · clear h
    go_enter Try.func7, Try.ntmps7
    go_wp2
    go_ret2
    exact ⟨rfl, rfl⟩
  · have h2 : 65536 < n := by omega
    clear h
    go_enter Try.func7, Try.ntmps7
    go_wp2
    go_ret2
    exact ⟨rfl, rfl⟩

theorem zsec_length : zsec.length = 128 := List.length_replicate
theorem zsec_bvs : bvs zsec = List.replicate 128 (.int .u8 0) := by unfold bvs zsec; rw [List.map_replicate]; rfl
theorem flatten_zero (n : Nat) : (List.replicate n zsec).flatten = List.replicate (n * 128) 0 := by
  induction n with
  | zero => simp
  | succ n ih => rw [List.replicate_succ, List.flatten_cons, ih]; unfold zsec; rw [List.replicate_append_replicate]; congr 1; omega
theorem made_sec (n : Nat) : (madeCells (bvs zsec).toArray (n * 128)).toList = flatB (List.replicate n zsec) := by
  unfold flatB
  rw [flatten_zero]
  have e : bvs (List.replicate (n * 128) 0) = List.replicate (n * 128) (.int .u8 0) := by unfold bvs; rw [List.map_replicate]; rfl
  rw [e]
  apply List.eq_replicate_iff.2
  refine ⟨by rw [Array.length_toList, size_madeCells], fun b hb => ?_⟩
  unfold madeCells at hb
  rw [Array.toList_map] at hb
  obtain ⟨i, _, rfl⟩ := List.mem_map.1 hb
  have hs : (bvs zsec).toArray.size = 128 := by rw [List.size_toArray, bvs_length, zsec_length]
  have hlt : i % (bvs zsec).toArray.size < (bvs zsec).toArray.size := by rw [hs]; omega
  rw [getElem!_pos (bvs zsec).toArray _ hlt]
  have hm : (bvs zsec).toArray[i % (bvs zsec).toArray.size] ∈ bvs zsec := by
    rw [List.getElem_toArray]; exact List.getElem_mem _
  have hall : ∀ x ∈ bvs zsec, x = .int .u8 0 := by rw [zsec_bvs]; intro x hx; exact List.eq_of_mem_replicate hx
  exact hall _ hm
theorem newDS_wf (n : Nat) (h1 : 1 ≤ n) (h2 : n ≤ 65536) : (newDS n).Wf where
  pos := by simpa [newDS] using h1
  le := by simpa [newDS] using h2
  sl := by simp [newDS]
  al := All.replicate zsec_length
  ash := All.replicate zsec_length
  aw := by simp [newDS]
  cut := Nat.zero_le _
  lm := by simp [newDS]

theorem own_zero (w : World) (g n : Nat) (h2 : n ≤ 65536) (h : Blk w g 65 (flatB (List.replicate n zsec))) : w.ownsRow 0 65 128 (.slice (some ⟨g, 0, none⟩) n n) n (flatB (List.replicate n zsec)) := by
  have hlen : (flatB (List.replicate n zsec)).length = n * 128 := by rw [flatB_length (All.replicate zsec_length), List.length_replicate]
  exact ownN_of_blk (rest := []) (by rw [List.append_nil]; exact h) (Nat.zero_le _) (Nat.le_refl _) (by unfold maxLen; omega) (by rw [List.append_nil, hlen]) hlen
theorem new_at (w : World) (gd g1 g2 n : Nat) (h1 : 1 ≤ n) (h2 : n ≤ 65536) (hne : g1 ≠ g2)
    (hb : Blk w gd 63 [.slice (some ⟨g1, 0, none⟩) n n, .slice (some ⟨g2, 0, none⟩) n n, .slice none 0 0, .int .i64 0, .bool false, .bool false, .int .i64 0, .slice none 0 0, .int .i64 0, .int .i64 0])
    (hb1 : Blk w g1 65 (flatB (List.replicate n zsec))) (hb2 : Blk w g2 65 (flatB (List.replicate n zsec))) :
    DkAt w ⟨gd, .slice (some ⟨g1, 0, none⟩) n n, .slice (some ⟨g2, 0, none⟩) n n, .slice none 0 0, none, 0⟩ (newDS n) where
  wf := newDS_wf n h1 h2
  hd := hb
  hl := by
    show w.ownsRow 0 65 128 (.slice (some ⟨g1, 0, none⟩) n n) (List.replicate n zsec).length (flatB (List.replicate n zsec))
    rw [List.length_replicate]; exact own_zero w g1 n h2 hb1
  hs := by
    show w.ownsRow 0 65 128 (.slice (some ⟨g2, 0, none⟩) n n) (List.replicate n zsec).length (flatB (List.replicate n zsec))
    rw [List.length_replicate]; exact own_zero w g2 n h2 hb2
  hw := World.ownsRow_nil _ _ _ _
  hk := Rd.nil
  ne := by simpa [Value.ownBlock] using hne
  kn := fun h => absurd h (by simp [newDS])

set_option maxRecDepth 100000 in
set_option maxHeartbeats 1000000 in
theorem new_ok (n : Nat) (w : World) (h1 : 1 ≤ n) (h2 : n ≤ 65536) :
    Calls Try.prog 7 #[.int .i64 (n : Int)] w fun e w' => ∃ L, e = .returned (.tuple #[.pointer (some ⟨L.gd, 0, none⟩), .int .i64 0]) ∧ DkAt w' L (newDS n) ∧ (∀ b, L.blocks b → w.heap.size ≤ b) ∧ Fr0 w w' := by
  go_enter Try.func7, Try.ntmps7
  go_wp2_with fail
  refine wp_region_ok (fun _ => True) (by kernel_rfl) ?_
  refine ok_take 0 (some 10) (.int .i64 (n : Int)) (by kernel_rfl) (fun c a t v w h => by cases t <;> exact h) (by kernel_rfl) (by kernel_rfl) rfl rfl rfl (fun _ _ => rfl) trivial ?_
  refine ok_take 2 (some 12) (.int .i64 (n : Int)) (by kernel_rfl) (fun c a t v w h => by cases t <;> exact h) (by kernel_rfl) (by kernel_rfl) rfl rfl rfl (fun _ _ => rfl) trivial ?_
  have mk := fun (W : World) (ρ : Operand → Value) (o : Oper) (l c : Operand) (ho : o.op = .makeSlice 58 l c) (hl : ρ l = .int .i64 (n : Int)) (hc : ρ c = .int .i64 (n : Int)) =>
    does_make (w := W) 58 l c ho 65 _ 128 128 n Try.underlying58 sec_info hl hc (by omega) (by omega)
  refine ok_pair 1 3 11 13 (by kernel_rfl) (by kernel_rfl) (by kernel_rfl) (by decide) (by decide) rfl rfl rfl rfl rfl rfl
    (fun v u w' => ∃ g1 g2, v = .slice (some ⟨g1, 0, none⟩) n n ∧ u = .slice (some ⟨g2, 0, none⟩) n n ∧ w.heap.size ≤ g1 ∧ w.heap.size ≤ g2 ∧ g1 ≠ g2 ∧ Blk w' g1 65 (flatB (List.replicate n zsec)) ∧ Blk w' g2 65 (flatB (List.replicate n zsec)) ∧ Fr0 w w')
    _ _ (mk _ _ _ (.tmp 10) (.tmp 10) rfl rfl rfl) (fun v w1 ⟨g1, hv, ha, hb, hc, hd⟩ => ⟨trivial, (mk w1 _ _ (.tmp 12) (.tmp 12) rfl rfl rfl).mono fun u w2 ⟨g2, hu, ha2, hb2, hc2, hd2⟩ => ?_⟩)
    (mk _ _ _ (.tmp 12) (.tmp 12) rfl rfl rfl) (fun v w1 ⟨g1, hv, ha, hb, hc, hd⟩ => ⟨trivial, (mk w1 _ _ (.tmp 10) (.tmp 10) rfl rfl rfl).mono fun u w2 ⟨g2, hu, ha2, hb2, hc2, hd2⟩ => ?_⟩) ?_
  · have hz := hd.size
    simp only [Value.cells, made_sec] at hc hc2
    exact ⟨g1, g2, hv, hu, ha, Nat.le_trans (by simpa using hz) ha2, by omega, hc.fr0 hd2, hc2, (Fr.refl.drew).then0 (hd.then0 hd2)⟩
  · have hz := hd.size
    simp only [Value.cells, made_sec] at hc hc2
    exact ⟨g2, g1, hu, hv, Nat.le_trans (by simpa using hz) ha2, ha, by omega, hc2, hc.fr0 hd2, (Fr.refl.drew).then0 (hd.then0 hd2)⟩
  rintro _ _ w1 ⟨g1, g2, rfl, rfl, ha1, ha2, hne, hb1, hb2, hf⟩
  refine ⟨trivial, ?_⟩
  have HB1 := Lib.hid hb1; have HB2 := Lib.hid hb2; have HF := Lib.hid hf
  clear hb1 hb2 hf
  refine ok_take 4 (some 14) (.agg #[.slice (some ⟨g1, 0, none⟩) n n, .slice (some ⟨g2, 0, none⟩) n n, .slice none 0 0, .int .i64 0, .bool false, .bool false, .int .i64 0, .slice none 0 0, .int .i64 0, .int .i64 0]) (by kernel_rfl) (fun c a t v w h => by cases t <;> exact h) (by kernel_rfl) (by kernel_rfl) rfl rfl rfl (fun _ _ => by kernel_rfl) trivial ?_
  refine ok_does 5 (some 15) (by kernel_rfl) rfl rfl rfl (does_box 63 (.tmp 14) rfl [.slice (some ⟨g1, 0, none⟩) n n, .slice (some ⟨g2, 0, none⟩) n n, .slice none 0 0, .int .i64 0, .bool false, .bool false, .int .i64 0, .slice none 0 0, .int .i64 0, .int .i64 0] rfl) ?_
  rintro _ w2 ⟨gd, rfl, hgd, hgd', hb, hf⟩
  refine ⟨trivial, ?_⟩
  refine ok_take 6 (some 2) (.pointer (some ⟨gd, 0, none⟩)) (by kernel_rfl) (fun c a t v w h => by cases t <;> exact h) (by kernel_rfl) (by kernel_rfl) rfl rfl rfl (fun _ _ => rfl) trivial ?_
  refine ok_take 7 (some 3) (.int .i64 0) (by kernel_rfl) (fun c a t v w h => by cases t <;> exact h) (by kernel_rfl) (by kernel_rfl) rfl rfl rfl (fun _ _ => rfl) trivial ?_
  refine ok_done (by kernel_rfl) ?_
  have hl1 := HB1.out.lt
  have hl2 := HB2.out.lt
  have hz := HF.out.size
  have HD := Lib.hid (new_at w2 gd g1 g2 n h1 h2 hne hb (HB1.out.fr0 hf) (HB2.out.fr0 hf))
  have HT := Lib.hid (HF.out.then0 hf)
  clear hb hf
  go_frame
  go_wp2
  go_ret2
  refine ⟨_, rfl, HD.out, ?_, HT.out⟩
  rintro b (h | h | h | h)
  · have h : b = gd := h
    omega
  · simp [Value.ownBlock] at h; omega
  · simp [Value.ownBlock] at h; omega
  · simp [Value.ownBlock] at h
end Go.Proofs.Ytbfeailalhddgaa
