/- A disk in memory: what it is, where it lies, how it stays. -/
import Derived.Test.YtbfeailalhddgaaFlat
import Derived.Test.YtbfeailalhddgaaSeq
import Derived.Test.YtbfeailalhddgaaProg
namespace Go.Proofs.Ytbfeailalhddgaa
open Go.RowKit

/-- A disk, plainly. -/
structure DS where
  lasts : List (List UInt8)
  shows : List (List UInt8)
  waits : List (Nat × List UInt8)
  done : Nat
  dead : Bool
  fset : Bool
  left : Nat
  keep : List Bool
  torn : Int
  cut : Nat
/-- Where it lies. -/
structure DL where
  gd : Nat
  vl : Value
  vs : Value
  vw : Value
  kA : Option Addr
  kc : Nat
def DL.blocks (L : DL) (b : Nat) : Prop := b = L.gd ∨ L.vl.ownBlock = some b ∨ L.vs.ownBlock = some b ∨ L.vw.ownBlock = some b

def boolsV (l : List Bool) : List Value := l.map Value.bool
def wcells (x : Nat × List UInt8) : List Value := .int .i64 (x.1 : Int) :: bvs x.2
def flatW (l : List (Nat × List UInt8)) : List Value := (l.map wcells).flatten
def DS.cells (s : DS) (L : DL) : List Value :=
  [L.vl, L.vs, L.vw, .int .i64 (s.done : Int), .bool s.dead, .bool s.fset, .int .i64 (s.left : Int), .slice L.kA s.keep.length L.kc, .int .i64 s.torn, .int .i64 (s.cut : Int)]

structure DS.Wf (s : DS) : Prop where
  pos : 1 ≤ s.lasts.length
  le : s.lasts.length ≤ 65536
  sl : s.shows.length = s.lasts.length
  al : All 128 s.lasts
  ash : All 128 s.shows
  aw : ∀ x ∈ s.waits, x.1 < s.lasts.length ∧ x.2.length = 128
  cut : s.cut ≤ 128
  lm : (s.left : Int) < 9223372036854775808

structure DkAt (w : World) (L : DL) (s : DS) : Prop where
  wf : s.Wf
  hd : Blk w L.gd 63 (s.cells L)
  hl : w.ownsRow 0 65 128 L.vl s.lasts.length (flatB s.lasts)
  hs : w.ownsRow 0 65 128 L.vs s.lasts.length (flatB s.shows)
  hw : w.ownsRow 0 67 129 L.vw s.waits.length (flatW s.waits)
  hk : Rd w L.kA s.keep.length (boolsV s.keep)
  ne : L.vl.ownBlock ≠ L.vs.ownBlock
  kn : 0 < s.keep.length → ∀ b off, L.kA = some ⟨b, off, none⟩ → ¬ L.blocks b

theorem ownN_fr {w w' : World} {S : Nat → Prop} {base size : Nat} {e : TypeId} {v : Value} {n : Nat} {xs : List Value} (h : w.ownsRow base e size v n xs) (hf : Fr S w w') (hn : ∀ k, v.ownBlock = some k → ¬ S k) :
    w'.ownsRow base e size v n xs := by
  refine ⟨h.1, ?_⟩
  rcases h.2 with hh | ⟨g, cap, cur, rfl, hb, hg, r⟩
  · exact .inl hh
  · exact .inr ⟨g, cap, cur, rfl, hb, (hf.block g (Array.getElem?_eq_some_iff.1 hg).1 (hn g rfl)).trans hg, r⟩
/-- A disk stands where none of its blocks is written. -/
theorem DkAt.fr {w w' : World} {L : DL} {s : DS} {S : Nat → Prop} (h : DkAt w L s) (hf : Fr S w w') (hn : ∀ b, L.blocks b → ¬ S b)
    (hk : 0 < s.keep.length → ∀ b off, L.kA = some ⟨b, off, none⟩ → ¬ S b) : DkAt w' L s where
  wf := h.wf
  hd := h.hd.fr hf (hn _ (.inl rfl))
  hl := ownN_fr h.hl hf (fun k hk => hn k (.inr (.inl hk)))
  hs := ownN_fr h.hs hf (fun k hk => hn k (.inr (.inr (.inl hk))))
  hw := ownN_fr h.hw hf (fun k hk => hn k (.inr (.inr (.inr hk))))
  hk := h.hk.fr hf hk
  ne := h.ne
  kn := h.kn
theorem DkAt.fr0 {w w' : World} {L : DL} {s : DS} (h : DkAt w L s) (hf : Fr0 w w') : DkAt w' L s := h.fr hf (fun _ _ hh => hh) (fun _ _ _ _ hh => hh)
theorem DkAt.lt {w : World} {L : DL} {s : DS} (h : DkAt w L s) {b : Nat} (hb : L.blocks b) : b < w.heap.size := by
  rcases hb with rfl | hb | hb | hb
  · exact h.hd.lt
  · exact (h.hl.lt b hb).2
  · exact (h.hs.lt b hb).2
  · exact (h.hw.lt b hb).2
/-- The row of a slice, as a block; elements of several cells. -/
theorem ownN_blk {w : World} {base size : Nat} {e : TypeId} {v : Value} {n : Nat} {xs : List Value} (h : w.ownsRow base e size v n xs) (hn : 0 < n) :
    ∃ g cap rest, v = .slice (some ⟨g, 0, none⟩) n cap ∧ base ≤ g ∧ n ≤ cap ∧ cap ≤ maxLen ∧ Blk w g e (xs ++ rest) ∧ (xs ++ rest).length = cap * size := by
  rcases h.2 with ⟨_, h0⟩ | ⟨g, cap, cur, rfl, hb, hg, hc, hm, hs, ht⟩
  · omega
  · have e : xs ++ cur.toList.drop (n * size) = cur.toList := by rw [← ht, List.take_append_drop]
    refine ⟨g, cap, cur.toList.drop (n * size), rfl, hb, hc, hm, ?_, ?_⟩
    · unfold Blk; rw [e]; simpa using hg
    · rw [e]; simpa using hs
theorem ownN_of_blk {w : World} {base size g cap n : Nat} {e : TypeId} {xs rest : List Value} (h : Blk w g e (xs ++ rest)) (hb : base ≤ g) (hc : n ≤ cap) (hm : cap ≤ maxLen) (hl : (xs ++ rest).length = cap * size) (hx : xs.length = n * size) :
    w.ownsRow base e size (.slice (some ⟨g, 0, none⟩) n cap) n xs :=
  ⟨hx, .inr ⟨g, cap, (xs ++ rest).toArray, rfl, hb, h, hc, hm, by simpa using hl, by simp only [← hx]; exact List.take_left⟩⟩
theorem ownN_form {w : World} {base size : Nat} {e : TypeId} {v : Value} {n : Nat} {xs : List Value} (h : w.ownsRow base e size v n xs) :
    ∃ A cap, v = .slice A n cap ∧ n ≤ cap ∧ Rd w A (n * size) xs ∧ (∀ b off, A = some ⟨b, off, none⟩ → base ≤ b ∧ off = 0) ∧ (0 < n → A ≠ none) := by
  rcases h.2 with ⟨rfl, h0⟩ | ⟨g, cap, cur, rfl, hb, hg, hc, hm, hs, ht⟩
  · subst h0
    have hx : xs = [] := List.eq_nil_of_length_eq_zero (by simpa using h.1)
    subst hx
    exact ⟨none, 0, rfl, Nat.le_refl _, by rw [Nat.zero_mul]; exact Rd.nil, by simp, by omega⟩
  · refine ⟨some ⟨g, 0, none⟩, cap, rfl, hc, ⟨h.1, fun _ => ⟨g, 0, rfl, fun j u hu => ?_⟩⟩, ?_, by simp⟩
    · have := h.cells (g := g) rfl j u hu
      rwa [Addr.add_mid] at this
    · intro b off e; injection e with e; injection e with e1 e2 _; subst e1; exact ⟨hb, e2.symm⟩
end Go.Proofs.Ytbfeailalhddgaa
