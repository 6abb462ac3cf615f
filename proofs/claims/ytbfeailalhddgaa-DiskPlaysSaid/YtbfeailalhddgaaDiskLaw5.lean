/- The law DiskLasts, walked. -/
import Derived.Test.YtbfeailalhddgaaDiskLaw4
namespace Go.Proofs.Ytbfeailalhddgaa
open Go.RowKit

theorem own_ty {w : World} {base size n b : Nat} {e : TypeId} {v : Value} {xs : List Value} (h : w.ownsRow base e size v n xs) (hb : v.ownBlock = some b) : ∃ cs, Blk w b e cs := by
  rcases h.2 with ⟨rfl, _⟩ | ⟨g, cap, cur, rfl, _, hg, _⟩
  · cases hb
  · obtain rfl : g = b := by simpa [Value.ownBlock] using hb
    exact ⟨cur.toList, by unfold Blk; simpa using hg⟩
theorem DkAt.ty {w : World} {L : DL} {s : DS} (h : DkAt w L s) {b : Nat} (hb : L.blocks b) : ∃ t cs, Blk w b t cs ∧ (t = 63 ∨ t = 65 ∨ t = 67) := by
  rcases hb with rfl | hb | hb | hb
  · exact ⟨_, _, h.hd, .inl rfl⟩
  · obtain ⟨cs, hc⟩ := own_ty h.hl hb; exact ⟨_, cs, hc, .inr (.inl rfl)⟩
  · obtain ⟨cs, hc⟩ := own_ty h.hs hb; exact ⟨_, cs, hc, .inr (.inl rfl)⟩
  · obtain ⟨cs, hc⟩ := own_ty h.hw hb; exact ⟨_, cs, hc, .inr (.inr rfl)⟩
/-- A block of another type is none of a disk's. -/
theorem DkAt.notin {w : World} {L : DL} {s : DS} (h : DkAt w L s) {g : Nat} {t : TypeId} {cs : List Value} (hb : Blk w g t cs) (ht : t ≠ 63 ∧ t ≠ 65 ∧ t ≠ 67) : ¬ L.blocks g := by
  intro hg
  obtain ⟨t', cs', hb', e⟩ := h.ty hg
  rcases e with rfl | rfl | rfl
  · exact Blk.ne hb hb' ht.1 rfl
  · exact Blk.ne hb hb' ht.2.1 rfl
  · exact Blk.ne hb hb' ht.2.2 rfl
theorem own_off {w : World} {base size n g : Nat} {e t : TypeId} {v : Value} {xs cs : List Value} (h : w.ownsRow base e size v n xs) (hb : Blk w g t cs) (ht : t ≠ e) : ¬ v.ownBlock = some g := by
  intro hg
  obtain ⟨cs', hb'⟩ := own_ty h hg
  exact Blk.ne hb hb' ht rfl

/-- What DiskLasts holds. -/
structure LI (w0 w : World) (g5 g9 : Nat) (v10 : Value) (L : DL) (s : DS) (pc : List Value) (lb : List UInt8) (wt : List Wt) : Prop where
  has : Has w0 w L s
  pl : Blk w g5 25 pc
  lb : Blk w g9 5 (bvs lb)
  wt : w.ownsRow w0.heap.size 34 3 v10 wt.length (flatP (wt.map wput))
  ge5 : w0.heap.size ≤ g5
  ge9 : w0.heap.size ≤ g9
  kp : s.keep = []
section
variable {w0 w w' : World} {g5 g9 : Nat} {v10 : Value} {L L' : DL} {s s' : DS} {pc : List Value} {lb : List UInt8} {wt : List Wt}
theorem LI.fr0 (h : LI w0 w g5 g9 v10 L s pc lb wt) (hf : Fr0 w w') : LI w0 w' g5 g9 v10 L s pc lb wt :=
  ⟨h.has.fr0 hf, h.pl.fr0 hf, h.lb.fr0 hf, ownN_fr h.wt hf (fun _ _ hh => hh), h.ge5, h.ge9, h.kp⟩
theorem LI.disk (h : LI w0 w g5 g9 v10 L s pc lb wt) (h' : DkTo w w' L L' s') (hk : s'.keep = []) : LI w0 w' g5 g9 v10 L' s' pc lb wt :=
  ⟨h.has.to h', h.pl.fr h'.fr (h.has.dk.notin h.pl (by decide)), h.lb.fr h'.fr (h.has.dk.notin h.lb (by decide)), ownN_fr h.wt h'.fr (fun k hk hh => by
    obtain ⟨cs, hc⟩ := own_ty h.wt hk
    exact h.has.dk.notin hc (by decide) hh), h.ge5, h.ge9, hk⟩
theorem LI.app (h : LI w0 w g5 g9 v10 L s pc lb wt) {v' : Value} {p : Wt} (hg : w.grownBy w' v10.ownBlock) (ho : w'.ownsRow w0.heap.size 34 3 v' (wt.length + 1) (flatP (wt.map wput) ++ prow (wput p))) : LI w0 w' g5 g9 v' L s pc lb (wt ++ [p]) := by
  have hf : Fr (fun k => v10.ownBlock = some k) w w' := Fr.grown (S := fun k => v10.ownBlock = some k) Fr.refl hg (fun k e _ => e)
  refine ⟨⟨h.has.fr.appN h.wt (Nat.le_refl _) hg, h.has.dk.fr hf (fun b hb e => ?_) (fun hp b off e e' => ?_), h.has.ge⟩, h.pl.fr hf (own_off h.wt h.pl (by decide)), h.lb.fr hf (own_off h.wt h.lb (by decide)), ?_, h.ge5, h.ge9, h.kp⟩
  · obtain ⟨cs, hc⟩ := own_ty h.wt e
    exact h.has.dk.notin hc (by decide) hb
  · rw [h.kp] at hp; exact absurd hp (by simp)
  · rw [List.length_append, List.map_append]
    have : flatP (wt.map wput ++ [p].map wput) = flatP (wt.map wput) ++ prow (wput p) := by simp [flatP]
    rw [this]; exact ho
theorem LI.set (h : LI w0 w g5 g9 v10 L s pc lb wt) {lb' : List UInt8} (hb : Blk w' g9 5 (bvs lb')) (hf : Fr (fun k => k = g9) w w') : LI w0 w' g5 g9 v10 L s pc lb' wt :=
  ⟨⟨h.has.fr.step hf (fun b hb e => by have := h.ge9; omega), h.has.dk.fr hf (fun b hbb e => h.has.dk.notin h.lb (by decide) (e ▸ hbb)) (fun hp => by rw [h.kp] at hp; exact absurd hp (by simp)), h.has.ge⟩, h.pl.fr hf (fun e => Blk.ne h.pl h.lb (by decide) e), hb, ownN_fr h.wt hf (fun k hk e => own_off h.wt h.lb (by decide) (e ▸ hk)), h.ge5, h.ge9, h.kp⟩
theorem LI.drop (h : LI w0 w g5 g9 v10 L s pc lb wt) : LI w0 w g5 g9 (.slice none 0 0) L s pc lb [] :=
  ⟨h.has, h.pl, h.lb, World.ownsRow_nil .., h.ge5, h.ge9, h.kp⟩
end
theorem u8_in (x : Int) (h : 0 ≤ x ∧ x < 256) : IntKind.u8.wrap x = x := by
  show x.emod _ = x
  exact Int.emod_eq_of_lt h.1 h.2
theorem rd_prow (w : World) (g : Nat) (p : Put) (h : Blk w g 34 (prow p)) : Rd w (some ⟨g, 0, none⟩) (1 * 3) (prow p) := Rd.ofBlk h rfl
theorem put_info : (Try.prog.info? 34).map (fun i => (i.zero, i.size, i.bytes)) = some (some (.agg (prow (0, 0, false)).toArray), 3, 3) := by kernel_rfl
theorem setAll_take (ps : List Wt) (l : List UInt8) (k : Nat) (p : Wt) (h : ps[k]? = some p) : (setAll (ps.take k) l).set p.1.toNat p.2 = setAll (ps.take (k + 1)) l := by
  induction ps generalizing l k with
  | nil => simp at h
  | cons q ps ih =>
    cases k with
    | zero => simp only [List.getElem?_cons_zero, Option.some.injEq] at h; subst h; rfl
    | succ k => rw [List.take_succ_cons, List.take_succ_cons, setAll, setAll]; exact ih _ k (by simpa using h)
end Go.Proofs.Ytbfeailalhddgaa
