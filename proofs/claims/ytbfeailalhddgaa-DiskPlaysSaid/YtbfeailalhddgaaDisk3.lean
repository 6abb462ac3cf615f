/- Contracts of a disk's Read and of burns. -/
import Derived.Test.YtbfeailalhddgaaClone
namespace Go.Proofs.Ytbfeailalhddgaa
open Go.RowKit

theorem read_nil (i : Int) (w : World) : Calls Try.prog 17 #[.pointer none, .int .i64 i] w fun e w' => e = .returned (.tuple #[.slice none 0 0, .int .i64 2]) ∧ w = w' := by
  go_enter Try.func17, Try.ntmps17
  go_wp2_with fail
  refine (alive_nil _).mono ?_
  rintro e _ ⟨rfl, rfl⟩
  go_wp2
  go_ret2
  exact ⟨rfl, rfl⟩
theorem read_dead (i : Int) (g : Nat) (w : World) (hc : w.cell? ⟨g, 4, none⟩ = some (.bool true)) :
    Calls Try.prog 17 #[.pointer (some ⟨g, 0, none⟩), .int .i64 i] w fun e w' => e = .returned (.tuple #[.slice none 0 0, .int .i64 20]) ∧ w = w' := by
  go_enter Try.func17, Try.ntmps17
  go_wp2_with fail
  refine (alive_any _ _ true hc).mono ?_
  rintro e _ ⟨rfl, rfl⟩
  go_wp2
  go_ret2
  exact ⟨rfl, rfl⟩
theorem read_arg (i : Int) (g : Nat) (A : Option Addr) (n c : Nat) (w : World) (hc : w.cell? ⟨g, 4, none⟩ = some (.bool false)) (hl : w.cell? ⟨g, 0, none⟩ = some (.slice A n c)) (h : i < 0 ∨ (n : Int) ≤ i) :
    Calls Try.prog 17 #[.pointer (some ⟨g, 0, none⟩), .int .i64 i] w fun e w' => e = .returned (.tuple #[.slice none 0 0, .int .i64 1]) ∧ w = w' := by
  by_cases h0 : i < 0
  · clear h
    go_enter Try.func17, Try.ntmps17
    go_wp2_with fail
    refine (alive_any _ _ false hc).mono ?_
    rintro e _ ⟨rfl, rfl⟩
    go_wp2
    go_ret2
    exact ⟨rfl, rfl⟩
  · have h1 : (n : Int) ≤ i := by omega
    clear h
    go_enter Try.func17, Try.ntmps17
    go_wp2_with fail
    refine (alive_any _ _ false hc).mono ?_
    rintro e _ ⟨rfl, rfl⟩
    go_wp2
    go_ret2
    exact ⟨rfl, rfl⟩
set_option maxHeartbeats 1000000 in
theorem read_ok (i : Nat) (w : World) (L : DL) (s : DS) (b : List UInt8) (hd : DkAt w L s) (ha : s.dead = false) (hb : s.shows[i]? = some b) :
    Calls Try.prog 17 #[.pointer (some ⟨L.gd, 0, none⟩), .int .i64 (i : Int)] w fun e w' => (∃ v, e = .returned (.tuple #[v, .int .i64 0]) ∧ w'.ownsRow w.heap.size 5 1 v 128 (bvs b)) ∧ Fr0 w w' := by
  have hi : i < s.lasts.length := by rw [← hd.wf.sl]; exact (List.getElem?_eq_some_iff.1 hb).1
  have hn := hd.wf.le
  obtain ⟨gl, cl, _, evl, _⟩ := ownN_blk hd.hl (by omega)
  obtain ⟨gs, cs, rest, evs, _, hc2, _, hbs, hls⟩ := ownN_blk hd.hs (by omega)
  have hc0 := hd.c0
  have hc1 := hd.c1
  have hc4 := hd.c4
  rw [evl] at hc0
  rw [evs] at hc1
  rw [ha] at hc4
  have hfl := flatB_length hd.wf.ash
  rw [hd.wf.sl] at hfl
  have HR := Lib.hid (show Rd w (some ⟨gs, i * 128, none⟩) 128 (bvs b) from by
    have h := Rd.of_blk hbs (i * 128) (n := 128) (by rw [List.length_append, hfl]; have : (i + 1) * 128 ≤ s.lasts.length * 128 := Nat.mul_le_mul_right _ hi; omega)
    rwa [List.drop_append_of_le_length (by rw [hfl]; exact Nat.mul_le_mul_right _ (by omega)), List.take_append_of_le_length (by rw [List.length_drop, hfl]; have : (i + 1) * 128 ≤ s.lasts.length * 128 := Nat.mul_le_mul_right _ hi; omega), flatB_at hd.wf.ash hb] at h)
  generalize s.lasts.length = n at *
  generalize L.gd = gd at *
  clear evl evs hbs hls hfl hb hd ha
  go_enter Try.func17, Try.ntmps17
  go_wp2_with fail
  refine (alive_any _ _ false hc4).mono ?_
  rintro e _ ⟨rfl, rfl⟩
  go_wp2_with fail
  refine (cloneB (some ⟨gs, i * 128, none⟩) 128 128 (bvs b) _ (by omega) HR.out (bvs_one _) (by simp)).mono ?_
  rintro e w1 ⟨v, rfl, ho, hf⟩
  go_wp2
  go_ret2
  exact ⟨⟨v, rfl, ho⟩, hf⟩
end Go.Proofs.Ytbfeailalhddgaa
