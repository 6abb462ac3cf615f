/- The machine that runs closed code stands for the model: operations, statements, calls. Over any program. No condition. -/
import Derived.Test.YthdlljlcffokbaaDoorZb6
import Derived.Deep.Upon
import Derived.LoopNIn
import Derived.TacticsIn
import Derived.OrdersIn
import Derived.RangeFuncCalls
import Derived.RangeFuncLeaves
import Derived.RangeFuncRecord
namespace Go.Proofs.YthdlljlcffokbaaDoor
open Go.RowKit

section
variable {P : Program} {G : Nat} {o : Oper} {e : Tb Value} {h h' : Hp} {nx nx' : Nat} {v : Value}
theorem MR.lt {σ : Sg} {hf : Hf} {w : World} (m : MR G σ hf nx w) {id : Nat} {L : Loc} (hL : σ id = some L) : id < nx := by
  rcases Nat.lt_or_ge id nx with h1 | h1
  · exact h1
  · rw [m.free id h1] at hL; cases hL
/-- Less memory is known. -/
theorem MR.sub {σ : Sg} {hf hf' : Hf} {w : World} (m : MR G σ hf nx w) (hs : ∀ i B, hf' i = some B → hf i = some B) : MR G σ hf' nx w :=
  have hsome : ∀ i, (hf' i).isSome = true → (hf i).isSome = true := fun i hi => by
    obtain ⟨B, hB⟩ := Option.isSome_iff_exists.1 hi
    rw [hs i B hB]; rfl
  ⟨fun i B hB => m.blk i B (hs i B hB), fun i i' L L' h1 h2 => m.sep i i' L L' (hsome i h1) (hsome i' h2), m.free, m.glob, m.gle⟩
theorem Tr.sub {σ : Sg} {hf hf' : Hf} {w : World} (m : MR G σ hf nx w) (hs : ∀ i B, hf' i = some B → hf i = some B) : Tr G σ hf nx w σ hf' nx w :=
  ⟨Nat.le_refl _, Sg.le.refl σ, fun _ _ => rfl, m.sub hs, rfl, rfl, rfl, Nat.le_refl _, fun _ _ _ => rfl, fun i L' hi hl => .inr ⟨i, L', by
    obtain ⟨B, hB⟩ := Option.isSome_iff_exists.1 hi
    rw [hs i B hB]; rfl, hl, rfl⟩, fun i _ hn => by
    cases hq : hf' i with
    | none => rfl
    | some B => (rw [hs i B hq] at hn; cases hn), fun _ _ hq => ⟨rfl, fun i L1 B1 h1 h2 h3 => hq i L1 B1 (hs i B1 h1) h2 h3⟩⟩
/-- A block, or a part of it, gets another number. -/
theorem MR.renameAt {σ : Sg} {hf : Hf} {w : World} (m : MR G σ hf nx w) {id : Nat} {L L' : Loc} {B B' : Bl} (hb : hf id = some B) (hL : σ id = some L) (hblk : L'.blk = L.blk) (hbr : ∀ σ' : Sg, σ.le σ' → BR σ' L' w B') (hro : B.ro → B'.ro := by simp [Bl.ro]) :
    Tr G σ hf nx w (fun i => if i = nx then some L' else σ i) (fun i => if i = nx then some B' else if i = id then none else hf i) (nx + 1) w := by
  have hid := m.lt hL
  have hle : σ.le (fun i => if i = nx then some L' else σ i) := fun i L1 hi => by
    have := m.lt hi
    simp only [if_neg (show ¬ i = nx by omega)]; exact hi
  have hlive : ∀ i L1, (if i = nx then some B' else if i = id then none else hf i).isSome = true → (if i = nx then some L' else σ i) = some L1 → ∃ j L0, (hf j).isSome = true ∧ σ j = some L0 ∧ L0.blk = L1.blk ∧ (i = nx → j = id) ∧ (i ≠ nx → j = i ∧ i ≠ id) := fun i L1 h1 h2 => by
    by_cases e : i = nx
    · rw [if_pos e] at h2
      injection h2 with h2; subst h2
      exact ⟨id, L, by rw [hb]; rfl, hL, hblk.symm, fun _ => rfl, fun hn => absurd e hn⟩
    · rw [if_neg e] at h1 h2
      by_cases e2 : i = id
      · rw [if_pos e2] at h1; cases h1
      · rw [if_neg e2] at h1
        exact ⟨i, L1, h1, h2, rfl, fun hh => absurd hh e, fun _ => ⟨rfl, e2⟩⟩
  refine ⟨by omega, hle, fun i hi => by rw [if_neg (by omega)], ⟨fun i B2 hi => ?_, fun i i' L1 L2 h1 h2 h3 h4 h5 => ?_, fun i hi => ?_, fun g hg => ?_, by have := m.gle; omega⟩, rfl, rfl, rfl, Nat.le_refl _, fun _ _ _ => rfl, fun i L1 hi hs => ?_, fun i hi hn => by
      rw [if_neg (by omega)]
      by_cases e : i = id
      · rw [if_pos e]
      · rw [if_neg e]; exact hn, fun r hr hq => ⟨rfl, fun i L1 B1 (h1 : (if i = nx then some B' else if i = id then none else hf i) = some B1) (h2 : (if i = nx then some L' else σ i) = some L1) h3 => by
      by_cases e : i = nx
      · rw [if_pos e] at h1 h2
        injection h1 with h1; subst h1
        injection h2 with h2; subst h2
        exact hro (hq id L B hb hL (hblk.symm.trans h3))
      · rw [if_neg e] at h1 h2
        by_cases e2 : i = id
        · rw [if_pos e2] at h1; cases h1
        · rw [if_neg e2] at h1; exact hq i L1 B1 h1 h2 h3⟩⟩
  · by_cases e : i = nx
    · rw [if_pos e] at hi; injection hi with hi; subst hi
      exact ⟨L', by rw [if_pos e], hbr _ hle⟩
    · rw [if_neg e] at hi
      by_cases e2 : i = id
      · rw [if_pos e2] at hi; cases hi
      · rw [if_neg e2] at hi
        obtain ⟨L1, h1, h2⟩ := m.blk i B2 hi
        exact ⟨L1, by rw [if_neg e]; exact h1, h2.keep hle rfl⟩
  · obtain ⟨j, La, h6, h7, h10, h8, h9⟩ := hlive i L1 h1 h3
    obtain ⟨j', Lb, h6', h7', h10', h8', h9'⟩ := hlive i' L2 h2 h4
    have hj := m.sep j j' La Lb h6 h6' h7 h7' (by rw [h10, h10', h5])
    by_cases e : i = nx <;> by_cases e' : i' = nx
    · rw [e, e']
    · have := h9' e'; have := h8 e; omega
    · have := h9 e; have := h8' e'; omega
    · have := h9 e; have := h9' e'; omega
  · rw [if_neg (by omega)]; exact m.free i (by omega)
  · have := m.gle
    rw [if_neg (by omega)]; exact m.glob g hg
  · obtain ⟨j, L0, h6, h7, h8, _⟩ := hlive i L1 hi hs
    exact .inr ⟨j, L0, h6, h7, h8⟩
theorem MR.rename {σ : Sg} {hf : Hf} {w : World} (m : MR G σ hf nx w) {id : Nat} {L : Loc} {B : Bl} (hb : hf id = some B) (hL : σ id = some L) :
    Tr G σ hf nx w (fun i => if i = nx then some L else σ i) (fun i => if i = nx then some B else if i = id then none else hf i) (nx + 1) w :=
  m.renameAt hb hL rfl (fun σ' hs => by
    obtain ⟨L1, h1, h2⟩ := m.blk id B hb
    rw [hL] at h1; injection h1 with h1; subst h1
    exact h2.keep hs rfl) (fun h => h)
theorem app_exec {ρ : Operand → Value} {s x : Operand} {t u : TypeId} {w w' : World} {r : Value} (ho : o.op = .call { callee := .builtin .append, args := #[s, x], argTypes := #[t, u] })
    (hr : (Builtin.append_ #[t, u] o.type #[ρ s, ρ x]).run P w = .ok r w') : (execOp ρ o).run P w = .ok (.value r) w' := by
  unfold execOp
  simp only [ho, resolve, invoke, builtin, Sem.run_bind, Sem.run_pure, Result.andThen_ok, List.map_toArray, List.map_cons, List.map_nil, hr]
/-- A new row, with room behind. -/
theorem grow_ok {σ : Sg} {w : World} {hp : Hp} (m : MR G σ hp.get nx w) {el s n : Nat} {z : Value} (hzs : z.cells.toList.length = s) {cs us : List Value} (hv : VRs σ cs us) (hlen : us.length = n * s) {cap : Nat} (hcap : n ≤ cap) (c : Tb Value) (hc : ∀ i, c.get i = cs[i]?) :
    ∃ σ', VR σ' (.slice (some ⟨nx, 0, some s⟩) n 0) (.slice (some ⟨w.heap.size, 0, none⟩) n cap) ∧
      Tr G σ hp.get nx w σ' (hp.put nx (.cells el cs.length 0 c)).get (nx + 1) (w.drew.alloc (.cells (us.toArray ++ Builtin.zeroCells z.cells (cap - n)) el)) := by
  have hsz : (us.toArray ++ Builtin.zeroCells z.cells (cap - n)).size = cap * s := by
    have hz : z.cells.size = s := by simpa using hzs
    rw [Array.size_append, size_zeroCells, hz]
    simp only [List.size_toArray, hlen]
    rw [← Nat.add_mul]; congr 1; omega
  obtain ⟨σ', h1, h2, h3⟩ := m.newRowIn (w' := w.drew.alloc (.cells (us.toArray ++ Builtin.zeroCells z.cells (cap - n)) el)) (row := us.toArray ++ Builtin.zeroCells z.cells (cap - n)) (fz := (0, 0)) el c hv hc (heap_alloc_new w.drew _) (fun i u hu => by
      have hi := (List.getElem?_eq_some_iff.1 hu).1
      rw [Array.getElem?_append_left (by simpa using hi)]; simpa using hu) (by simp) (.inl rfl) ⟨rfl, rfl, rfl⟩ (by simp) (fun r hr => Below.heap_alloc w.drew _ r hr)
  rw [hsz] at h1
  exact ⟨σ', .slo (L := ⟨w.heap.size, 0, cap * s⟩) h1 hcap (by simp) .nil, h3⟩
theorem newRow_inv {el s n : Nat} {cs : List Value} (hm : mNewRow P h nx el s n cs = .ok v h' nx') :
    ∃ z, zeroTy P el = some z ∧ z.cells.toList.length = s ∧ v = .slice (some ⟨nx, 0, some s⟩) n 0 ∧ h' = h.put nx (.cells el cs.length 0 (Tb.of cs)) ∧ nx' = nx + 1 := by
  unfold mNewRow at hm
  split at hm
  · rename_i z hz
    obtain ⟨h1, hm⟩ := bo_inv hm (by simp)
    obtain ⟨rfl, rfl, rfl⟩ := newB_inv hm
    exact ⟨z, hz, Nat.eq_of_beq_eq_true h1, rfl, rfl, rfl⟩
  · cases hm
theorem fit_ok {need cap bytes : Nat} (h1 : cap < need) (h2 : need ≤ 16777216) (h3 : bytes ≤ 1048576) : Builtin.nextslicecap need cap * bytes ≤ 281474976710656 := by
  have h4 := nextslicecap_le h1
  have h5 : Builtin.nextslicecap need cap * bytes ≤ (2 * 16777216) * 1048576 := Nat.mul_le_mul (by omega) h3
  omega
theorem app_good {s x : Operand} {t u : TypeId} (ho : o.op = .call { callee := .builtin .append, args := #[s, x], argTypes := #[t, u] })
    (hk : (∃ e', P.underlying u = some (.slice e')) ∨ P.underlying u = some .string) (hm : mAppend P h nx t (evO G e s) (evO G e x) = .ok v h' nx') : Good P G o e h nx v h' nx' := by
  unfold mAppend at hm
  split at hm
  · rename_i a sl sc x' h1 h2
    split at hm
    · rename_i el sz n ht hl
      split at hm
      · rename_i i news hi hs
        obtain ⟨hc, hm1⟩ := bo_inv hm (by simp)
        clear hm
        have hm := hm1; clear hm1
        simp only [Bool.and_eq_true] at hc
        have hpos := blt_lt hc.1
        have h24 := Nat.le_of_ble_eq_true hc.2.1
        have hby := Nat.le_of_ble_eq_true hc.2.2.1
        have hone := hc.2.2.2
        obtain ⟨hu, i', hi', his⟩ := slEl ht
        rw [hi] at hi'; injection hi' with hi'; subst hi'
        subst his
        have src : ∀ (σ : Sg) (w : World) (ρ : Operand → Value), OE σ G e ρ → MR G σ h.get nx w → ∃ us, VRs σ news us ∧ news.length = n * i.size ∧ us.length = n * i.size ∧ Src P i.size u (ρ x) n us w := fun σ w ρ oe m => by
          obtain ⟨us, h3, h4, h5, h6, h7⟩ := src_ok (P := P) m hs (oe x _ h2)
          have h8 := (h7 n hl).1 rfl
          exact ⟨us, h3, h8, by omega, hk, (h7 n hl).2, h5, h6, by omega, h3.one hone⟩
        have grow : ∀ (σ : Sg) (w : World) (ρ : Operand → Value) (base : Option Addr) (cap : Nat) (us olds : List Value), Src P i.size u (ρ x) n us w → ρ s = .slice base sl cap → cap < sl + n → (Builtin.firstCells i.size sl (.slice base sl cap)).run P w.drew = .ok olds.toArray w.drew →
            ∀ z, i.zero = some z → (execOp ρ o).run P w = .ok (.value (.slice (some ⟨w.heap.size, 0, none⟩) (sl + n) (grownCap w (sl + n) cap el))) (w.drew.alloc (.cells ((olds ++ us).toArray ++ Builtin.zeroCells z.cells (grownCap w (sl + n) cap el - (sl + n))) el)) := fun σ w ρ base cap us olds hsrc hb hlt hold z hz => by
          refine app_exec ho ?_
          rw [hb]
          exact run_append_grow_src w t u o.type el i z hu hi hz base sl cap olds hold (ρ x) n us hsrc hlt (by omega) (fit_ok hlt h24 hby)
        cases a with
        | none =>
          obtain ⟨hc2, hm1⟩ := bo_inv (show appNil P h nx el i.size n sl sc news = _ from hm) (by simp)
          clear hm
          have hm := hm1; clear hm1
          simp only [Bool.and_eq_true] at hc2
          have hsl := Nat.eq_of_beq_eq_true hc2.1
          have hsc := Nat.eq_of_beq_eq_true hc2.2
          subst hsl; subst hsc
          cases hn : Nat.beq n 0 with
          | true =>
            rw [hn, bo_true] at hm
            have hn := Nat.eq_of_beq_eq_true hn
            subst hn
            obtain ⟨rfl, rfl, rfl⟩ := ok_inj hm
            refine good_pure fun σ w ρ oe m => ⟨.slice none 0 0, .sc _ rfl .nil, ?_⟩
            have hsx := (oe s _ h1).scal_inv rfl
            obtain ⟨us, h3, h4, h5, h6⟩ := src σ w ρ oe m
            have : us = [] := List.eq_nil_of_length_eq_zero (by omega)
            subst this
            refine app_exec ho ?_
            rw [hsx]
            exact run_append_nothing w t u o.type el i hu hi none 0 0 (Nat.le_refl _) (ρ x) h6
          | false =>
            rw [hn, bo_false] at hm
            have hn : n ≠ 0 := fun e => by subst e; simp at hn
            obtain ⟨z, hz, hzs, rfl, rfl, rfl⟩ := newRow_inv hm
            obtain ⟨i2, hi2, hiz, _⟩ := zeroTy_info hz
            rw [hi] at hi2; injection hi2 with hi2; subst hi2
            intro σ w ρ oe m
            have hsx := (oe s _ h1).scal_inv rfl
            obtain ⟨us, h3, h4, h5, h6⟩ := src σ w ρ oe m
            have hrun := grow σ w ρ none 0 us [] h6 hsx (by omega) rfl z hiz
            simp only [List.nil_append, Nat.zero_add] at hrun
            obtain ⟨σ', h7, h8⟩ := grow_ok m (el := el) hzs h3 h5 (grownCap_ge w n 0 el) (Tb.of news) (fun i => Tb.get_of _ i)
            exact ⟨_, _, .inl hrun, σ', h7, h8⟩
        | some a =>
        obtain ⟨id, off, sp⟩ := a
        cases sp with
        | none =>
          change appExact P h nx el i.size n sl sc id off news = _ at hm
          unfold appExact at hm
          cases hle : Nat.ble (sl + n) sc with
          | true =>
            rw [hle, bo_true] at hm
            have hle := Nat.le_of_ble_eq_true hle
            split at hm
            · rename_i h2' hw
              obtain ⟨rfl, rfl, rfl⟩ := ok_inj hm
              intro σ w ρ oe m
              obtain ⟨L, hL, hsx⟩ := (oe s _ h1).sl_inv
              obtain ⟨us, h3, h4, h5, h6⟩ := src σ w ρ oe m
              obtain ⟨el', n', k, c, hb, hle2, hk0, hone', hh'⟩ := wr_inv hw
              obtain ⟨row, fz, hr1, hr2, hr3, hr4, hr5, hr6, hr7⟩ := m.cells hb hL
              obtain ⟨_, htr⟩ := m.write (P := P) hw hL h3
              refine ⟨.slice (some ⟨L.blk, L.base + off, none⟩) (sl + n) sc, _, .inl (app_exec ho ?_), σ, .sl hL .nil, htr⟩
              rw [hsx]
              have hroom := run_append_room_src (P := P) w t u o.type el i hu hi L.blk (L.base + off) sl sc (ρ x) n us h6 hle
                (fun j hj => by rw [cell_of_row w L.blk _ row el' fz hr1, Array.getElem?_eq_getElem (by omega)]; rfl) (fun j hj => hr6 (by omega) _ (by omega))
              rw [show L.base + (off + sl * i.size) = L.base + off + sl * i.size by omega]
              exact hroom
            · obtain ⟨hn, hm⟩ := bo_inv hm (by simp)
              have hn := Nat.eq_of_beq_eq_true hn
              subst hn
              obtain ⟨rfl, rfl, rfl⟩ := ok_inj hm
              refine good_pure fun σ w ρ oe m => ?_
              obtain ⟨L, hL, hsx⟩ := (oe s _ h1).sl_inv
              obtain ⟨us, h3, h4, h5, h6⟩ := src σ w ρ oe m
              have : us = [] := List.eq_nil_of_length_eq_zero (by omega)
              subst this
              refine ⟨.slice (some ⟨L.blk, L.base + off, none⟩) (sl + 0) sc, .sl hL .nil, app_exec ho ?_⟩
              rw [hsx]
              exact run_append_nothing w t u o.type el i hu hi _ sl sc (by omega) (ρ x) h6
          | false =>
            rw [hle, bo_false] at hm
            have hle : sc < sl + n := by
              rcases Nat.lt_or_ge sc (sl + n) with hh | hh
              · exact hh
              · rw [Nat.ble_eq_true_of_le hh] at hle; cases hle
            split at hm
            · rename_i olds hold
              obtain ⟨z, hz, hzs, rfl, rfl, rfl⟩ := newRow_inv hm
              obtain ⟨i2, hi2, hiz, _⟩ := zeroTy_info hz
              rw [hi] at hi2; injection hi2 with hi2; subst hi2
              intro σ w ρ oe m
              obtain ⟨us, h3, h4, h5, h6⟩ := src σ w ρ oe m
              obtain ⟨L, hL, hsx⟩ := (oe s _ h1).sl_inv
              obtain ⟨os, g1, g2, g3, g4, g5⟩ := src_ok (P := P) m hold (.sl hL .nil)
              have g6 := (g5 sl rfl).1 rfl
              have hrun := grow σ w ρ _ sc us os h6 hsx hle g4 z hiz
              obtain ⟨σ', h7, h8⟩ := grow_ok m (el := el) hzs (g1.append h3) (by rw [List.length_append, h5, g2, g6, Nat.add_mul]) (grownCap_ge w (sl + n) sc el) (Tb.of (olds ++ news)) (fun i => Tb.get_of _ i)
              exact ⟨_, _, .inl hrun, σ', h7, h8⟩
            · cases hm
        | some zz =>
          obtain ⟨hc2, hm1⟩ := bo_inv (show appOpen P h nx el i.size n sl sc id off zz news = _ from hm) (by simp)
          clear hm
          have hm := hm1; clear hm1
          simp only [Bool.and_eq_true] at hc2
          have hzz := Nat.eq_of_beq_eq_true hc2.1
          have hsc := Nat.eq_of_beq_eq_true hc2.2
          subst hzz; subst hsc
          split at hm
          · rename_i el' mm k c hb
            cases hle : Nat.ble (off + (sl + n) * i.size) mm with
            | true =>
              rw [hle, bo_true] at hm
              have hle := Nat.le_of_ble_eq_true hle
              split at hm
              · rename_i h2' hw
                obtain ⟨rfl, rfl, rfl⟩ := ok_inj hm
                intro σ w ρ oe m
                obtain ⟨L, c', hL, hsc', hroom', _, hsx⟩ := (oe s _ h1).slo_inv
                obtain ⟨us, h3, h4, h5, h6⟩ := src σ w ρ oe m
                obtain ⟨el2, n', k', c2, hb', hle2, hk0, hone', hh'⟩ := wr_inv hw
                obtain ⟨row, fz, hr1, hr2, hr3, hr4, hr5, hr6, hr7⟩ := m.cells hb' hL
                rw [hb] at hb'; injection hb' with hb'; injection hb' with e1 e2 e3 e4; subst e2
                obtain ⟨_, htr⟩ := m.write (P := P) hw hL h3
                have hcap : sl + n ≤ c' := by
                  have : (sl + n) * i.size ≤ c' * i.size := by omega
                  exact Nat.le_of_mul_le_mul_right this hpos
                refine ⟨.slice (some ⟨L.blk, L.base + off, none⟩) (sl + n) c', _, .inl (app_exec ho ?_), σ, .slo hL hcap hroom' .nil, htr⟩
                rw [hsx]
                have hroom := run_append_room_src (P := P) w t u o.type el i hu hi L.blk (L.base + off) sl c' (ρ x) n us h6 hcap
                  (fun j hj => by
                    rw [Nat.add_mul] at hle
                    rw [cell_of_row w L.blk _ row el2 fz hr1, Array.getElem?_eq_getElem (by omega)]; rfl) (fun j hj => hr6 (by omega) _ (by rw [Nat.add_mul] at hle; omega))
                rw [show L.base + (off + sl * i.size) = L.base + off + sl * i.size by omega]
                exact hroom
              · cases hm
            | false =>
              rw [hle, bo_false] at hm
              split at hm
              · rename_i zv hzv
                obtain ⟨hc3, hm3⟩ := bo_inv hm (by simp)
                clear hm
                simp only [Bool.and_eq_true] at hc3
                have hzs := Nat.eq_of_beq_eq_true hc3.1
                have hm2 := Nat.eq_of_beq_eq_true hc3.2.1
                have hk0 := Nat.eq_of_beq_eq_true hc3.2.2.1
                have hee := Nat.eq_of_beq_eq_true hc3.2.2.2
                cases hoffb : Nat.beq off 0 with
                | false =>
                 rw [hoffb, bo_false] at hm3
                 subst hm2; subst hk0; subst hee
                 split at hm3
                 · rename_i olds hold
                   rw [listS_eq, delS_eq] at hm3
                   obtain ⟨rfl, rfl, rfl⟩ := newB_inv hm3
                   obtain ⟨i2, hi2, hiz, _⟩ := zeroTy_info hzv
                   rw [hi] at hi2; injection hi2 with hi2; subst hi2
                   intro σ w ρ oe m
                   obtain ⟨us, h3, h4, h5, h6⟩ := src σ w ρ oe m
                   obtain ⟨L, c', hL, hsc', hroom', _, hsx⟩ := (oe s _ h1).slo_inv
                   obtain ⟨row, fz, hr1, hr2, hr3, hr4, hr5, hr6, hr7⟩ := m.cells hb hL
                   have hlen := ldN_length _ _ _ hold
                   obtain ⟨os, g1, g2, g3⟩ := m.ldN hb hL (sl * i.size) off hold
                   rcases Nat.lt_or_ge c' (sl + n) with hcap | hcap
                   · have hf : (Builtin.firstCells i.size sl (.slice (some ⟨L.blk, L.base + off, none⟩) sl c')).run P w.drew = .ok os.toArray w.drew :=
                       run_firstCells_some w.drew i.size sl _ sl c' os (by rw [g2]) (fun j y hy => by
                         rw [Addr.add_mid]; exact g3 j y hy)
                     have hrun := grow σ w ρ _ c' us os h6 hsx hcap hf zv hiz
                     have m' : MR G σ (h.del id).get nx w := m.sub fun j B hB => by
                       rw [Tb.get_del] at hB
                       split at hB
                       · cases hB
                       · exact hB
                     obtain ⟨σ', h7, h8⟩ := grow_ok m' (el := el) hzs (g1.append h3) (by rw [List.length_append, h5, g2, Nat.add_mul]) (grownCap_ge w (sl + n) c' el) (Tb.of (olds ++ news)) (fun j => by rw [Tb.get_of])
                     refine ⟨_, _, .inl hrun, σ', h7, Tr.trans (Tr.sub m fun j B hB => ?_) h8⟩
                     rw [Tb.get_del] at hB
                     split at hB
                     · cases hB
                     · exact hB
                   · have hspace : L.base + off + sl * i.size + us.length ≤ L.size := by
                       have : (sl + n) * i.size ≤ c' * i.size := Nat.mul_le_mul_right _ hcap
                       rw [Nat.add_mul] at this
                       omega
                     have hroom := run_append_room_src (P := P) w t u o.type el i hu hi L.blk (L.base + off) sl c' (ρ x) n us h6 hcap
                       (fun j hj => by rw [cell_of_row w L.blk _ row el fz hr1, Array.getElem?_eq_getElem (by omega)]; rfl) (fun j hj => hr6 (by omega) _ (by omega))
                     have t1 := m.upd (B' := .cells el (off + sl * i.size + news.length) 0 (stN news c (off + sl * i.size))) (w' := w.setCells L.blk (L.base + off + sl * i.size) us) hb hL
                       ⟨rowPut row (L.base + off + sl * i.size) us, fz, setCells_row _ _ _ _ _ _ _ hr1, by rw [rowPut_size, hr2], by omega, fun j => by
                         rw [stN_get]
                         by_cases hj : off + sl * i.size ≤ j ∧ j < off + sl * i.size + news.length
                         · rw [if_pos hj, List.getElem?_eq_getElem (by omega)]; simp; omega
                         · rw [if_neg hj, hr4 j]; omega, fun j y hy => by
                         rw [stN_get] at hy
                         rw [rowPut_get _ _ _ _ (by omega)]
                         by_cases hj : off + sl * i.size ≤ j ∧ j < off + sl * i.size + news.length
                         · rw [if_pos hj] at hy
                           rw [if_pos (by omega), show L.base + j - (L.base + off + sl * i.size) = j - (off + sl * i.size) by omega]
                           exact h3.get hy
                         · rw [if_neg hj] at hy
                           rw [if_neg (by omega)]
                           exact hr5 j y hy, fun _ => hr7 (by simp)⟩
                       (setCells_rest _ _ _ _) (setCells_size _ _ _ _) (fun r hr => setCells_other _ _ _ _ r hr)
                     have hol : ∀ j, j < sl * i.size → c.get (off + j) = olds[j]? := fun j hj => ldN_get _ _ _ hold j hj
                     obtain ⟨L1, hL1, row2, fz2, q1, q2, q3, q4, q5, q6⟩ := t1.mr.blk id (.cells el (off + sl * i.size + news.length) 0 (stN news c (off + sl * i.size))) (if_pos rfl)
                     rw [hL] at hL1; injection hL1 with hL1; subst hL1
                     have hsh : ∀ j, (Tb.of (olds ++ news)).get j = if j < sl * i.size + news.length then (stN news c (off + sl * i.size)).get (off + j) else none := fun j => by
                       rw [Tb.get_of, stN_get]
                       by_cases hj : j < sl * i.size + news.length
                       · rw [if_pos hj]
                         by_cases hj2 : j < sl * i.size
                         · rw [if_neg (by omega), List.getElem?_append_left (by omega), hol j hj2]
                         · rw [if_pos (by omega), List.getElem?_append_right (by omega)]
                           congr 1; omega
                       · rw [if_neg hj, List.getElem?_eq_none (by simp; omega)]
                     have t2 := t1.mr.renameAt (id := id) (L := L) (L' := ⟨L.blk, L.base + off, L.size⟩) (B' := .cells el (olds ++ news).length 0 (Tb.of (olds ++ news))) (by rw [if_pos rfl]) hL rfl (fun σ' hs => ⟨row2, fz2, q1, q2, by simp; omega, fun j => by
                       rw [Tb.get_of]; simp, fun j y hy => by
                       rw [hsh] at hy
                       split at hy
                       · obtain ⟨u0, hu0, hr0⟩ := q5 (off + j) y hy
                         exact ⟨u0, by rw [← hu0]; show row2[L.base + off + j]? = row2[L.base + (off + j)]?; rw [Nat.add_assoc], hr0.mono hs⟩
                       · (cases hy), q6⟩)
                     refine ⟨.slice (some ⟨L.blk, L.base + off, none⟩) (sl + n) c', w.setCells L.blk (L.base + off + sl * i.size) us, .inl (app_exec ho ?_), (fun j => if j = nx then some ⟨L.blk, L.base + off, L.size⟩ else σ j), .slo (L := ⟨L.blk, L.base + off, L.size⟩) (off := 0) (by rw [if_pos rfl]) hcap (by simpa using hroom') .nil, ?_⟩
                     · rw [hsx]; exact hroom
                     · have hget : ((h.del id).put nx (.cells el (olds ++ news).length 0 (Tb.of (olds ++ news)))).get = fun j => if j = nx then some (.cells el (olds ++ news).length 0 (Tb.of (olds ++ news))) else if j = id then none else h.get j := by
                         rw [Tb.put_fun]; funext j; rw [Tb.get_del]
                       rw [hget]
                       have hfun : (fun j => if j = nx then some (Bl.cells el (olds ++ news).length 0 (Tb.of (olds ++ news))) else if j = id then none else h.get j) = (fun j => if j = nx then some (Bl.cells el (olds ++ news).length 0 (Tb.of (olds ++ news))) else if j = id then none else if j = id then some (Bl.cells el (off + sl * i.size + news.length) 0 (stN news c (off + sl * i.size))) else h.get j) := by
                         funext j
                         by_cases e1 : j = nx
                         · rw [if_pos e1, if_pos e1]
                         · rw [if_neg e1, if_neg e1]
                           by_cases e2 : j = id
                           · rw [if_pos e2, if_pos e2]
                           · rw [if_neg e2, if_neg e2, if_neg e2]
                       rw [hfun]
                       exact t1.trans t2
                 · cases hm3
                | true =>
                rw [hoffb, bo_true] at hm3
                have hoff := Nat.eq_of_beq_eq_true hoffb
                subst hoff
                rw [Nat.zero_add] at hm2
                subst hm2; subst hk0; subst hee
                rw [stS_eq, delS_eq] at hm3
                obtain ⟨rfl, rfl, rfl⟩ := newB_inv hm3
                obtain ⟨i2, hi2, hiz, _⟩ := zeroTy_info hzv
                rw [hi] at hi2; injection hi2 with hi2; subst hi2
                intro σ w ρ oe m
                obtain ⟨us, h3, h4, h5, h6⟩ := src σ w ρ oe m
                obtain ⟨L, c', hL, hsc', hroom', _, hsx⟩ := (oe s _ h1).slo_inv
                obtain ⟨row, fz, hr1, hr2, hr3, hr4, hr5, hr6, hr7⟩ := m.cells hb hL
                have hidne : id ≠ nx := by have := m.lt hL; omega
                have hget : ((h.del id).put nx (.cells el (sl * i.size + news.length) 0 (stN news c (sl * i.size)))).get = fun j => if j = nx then some (.cells el (sl * i.size + news.length) 0 (stN news c (sl * i.size))) else if j = id then none else h.get j := by
                  rw [Tb.put_fun]; funext j; rw [Tb.get_del]
                rcases Nat.lt_or_ge c' (sl + n) with hcap | hcap
                · obtain ⟨os, g1, g2, g3⟩ : ∃ os, VRs σ ((List.range (sl * i.size)).map fun j => (c.get j).getD undef) os ∧ os.length = sl * i.size ∧ w.rangeAt L.blk (L.base + 0) os := by
                    refine ⟨(List.range (sl * i.size)).map fun j => row.getD (L.base + j) undef, VRs.of_get (by simp) fun j y hy => ?_, by simp, fun j y hy => ?_⟩
                    · have hj := (List.getElem?_eq_some_iff.1 hy).1
                      simp only [List.length_map, List.length_range] at hj
                      obtain ⟨v0, hv0⟩ := Option.isSome_iff_exists.1 ((hr4 j).2 hj)
                      obtain ⟨u0, hu0, hr0⟩ := hr5 j v0 hv0
                      refine ⟨u0, ?_, ?_⟩
                      · simp [hj, hu0]
                      · simp [hj, hv0] at hy; subst hy; exact hr0
                    · have hj := (List.getElem?_eq_some_iff.1 hy).1
                      simp only [List.length_map, List.length_range] at hj
                      obtain ⟨v0, hv0⟩ := Option.isSome_iff_exists.1 ((hr4 j).2 hj)
                      obtain ⟨u0, hu0, hr0⟩ := hr5 j v0 hv0
                      rw [cell_of_row w L.blk _ row el fz hr1, Nat.add_zero]
                      simp [hj, hu0] at hy
                      rw [hu0, hy]
                  have hf : (Builtin.firstCells i.size sl (.slice (some ⟨L.blk, L.base + 0, none⟩) sl c')).run P w.drew = .ok os.toArray w.drew :=
                    run_firstCells_some w.drew i.size sl _ sl c' os (by rw [g2]) (fun j y hy => by
                      rw [Addr.add_mid]; exact g3 j y hy)
                  have hrun := grow σ w ρ _ c' us os h6 hsx hcap hf zv hiz
                  have m' : MR G σ (h.del id).get nx w := m.sub fun j B hB => by
                    rw [Tb.get_del] at hB
                    split at hB
                    · cases hB
                    · exact hB
                  obtain ⟨σ', h7, h8⟩ := grow_ok m' (el := el) hzs (g1.append h3) (by rw [List.length_append, h5, g2, Nat.add_mul]) (grownCap_ge w (sl + n) c' el) (stN news c (sl * i.size)) (fun j => by
                    rw [stN_get]
                    by_cases hj : sl * i.size ≤ j ∧ j < sl * i.size + news.length
                    · rw [if_pos hj, List.getElem?_append_right (by simp; omega)]; simp
                    · rw [if_neg hj]
                      by_cases hj2 : j < sl * i.size
                      · rw [List.getElem?_append_left (by simpa using hj2)]
                        obtain ⟨v0, hv0⟩ := Option.isSome_iff_exists.1 ((hr4 j).2 hj2)
                        simp [hj2, hv0]
                      · rw [List.getElem?_eq_none (by simp; omega)]
                        cases hcg : c.get j with
                        | none => rfl
                        | some v0 => exact absurd ((hr4 j).1 (by rw [hcg]; rfl)) hj2)
                  rw [show (((List.range (sl * i.size)).map fun j => (c.get j).getD undef) ++ news).length = sl * i.size + news.length by simp] at h8
                  refine ⟨_, _, .inl hrun, σ', h7, Tr.trans (Tr.sub m fun j B hB => ?_) h8⟩
                  rw [Tb.get_del] at hB
                  split at hB
                  · cases hB
                  · exact hB
                · have hspace : L.base + sl * i.size + us.length ≤ L.size := by
                    have : (sl + n) * i.size ≤ c' * i.size := Nat.mul_le_mul_right _ hcap
                    rw [Nat.add_mul] at this
                    omega
                  have hroom := run_append_room_src (P := P) w t u o.type el i hu hi L.blk (L.base + 0) sl c' (ρ x) n us h6 hcap
                    (fun j hj => by rw [cell_of_row w L.blk _ row el fz hr1, Array.getElem?_eq_getElem (by omega)]; rfl) (fun j hj => hr6 (by omega) _ (by omega))
                  rw [Nat.add_zero] at hroom
                  have t1 := m.upd (B' := .cells el (sl * i.size + news.length) 0 (stN news c (sl * i.size))) (w' := w.setCells L.blk (L.base + sl * i.size) us) hb hL
                    ⟨rowPut row (L.base + sl * i.size) us, fz, setCells_row _ _ _ _ _ _ _ hr1, by rw [rowPut_size, hr2], by omega, fun j => by
                      rw [stN_get]
                      by_cases hj : sl * i.size ≤ j ∧ j < sl * i.size + news.length
                      · rw [if_pos hj, List.getElem?_eq_getElem (by omega)]; simp; omega
                      · rw [if_neg hj, hr4 j]; omega, fun j y hy => by
                      rw [stN_get] at hy
                      rw [rowPut_get _ _ _ _ (by omega)]
                      by_cases hj : sl * i.size ≤ j ∧ j < sl * i.size + news.length
                      · rw [if_pos hj] at hy
                        rw [if_pos (by omega), show L.base + j - (L.base + sl * i.size) = j - sl * i.size by omega]
                        exact h3.get hy
                      · rw [if_neg hj] at hy
                        rw [if_neg (by omega)]
                        exact hr5 j y hy, fun _ => hr7 (by simp)⟩
                    (setCells_rest _ _ _ _) (setCells_size _ _ _ _) (fun r hr => setCells_other _ _ _ _ r hr)
                  have t2 := t1.mr.rename (id := id) (L := L) (by rw [if_pos rfl]) hL
                  refine ⟨.slice (some ⟨L.blk, L.base + 0, none⟩) (sl + n) c', w.setCells L.blk (L.base + sl * i.size) us, .inl (app_exec ho ?_), (fun j => if j = nx then some L else σ j), .slo (L := L) (by rw [if_pos rfl]) hcap hroom' .nil, ?_⟩
                  · rw [hsx]; exact hroom
                  · rw [hget]
                    have hfun : (fun j => if j = nx then some (Bl.cells el (sl * i.size + news.length) 0 (stN news c (sl * i.size))) else if j = id then none else h.get j) = (fun j => if j = nx then some (Bl.cells el (sl * i.size + news.length) 0 (stN news c (sl * i.size))) else if j = id then none else if j = id then some (Bl.cells el (sl * i.size + news.length) 0 (stN news c (sl * i.size))) else h.get j) := by
                      funext j
                      by_cases e1 : j = nx
                      · rw [if_pos e1, if_pos e1]
                      · rw [if_neg e1, if_neg e1]
                        by_cases e2 : j = id
                        · rw [if_pos e2, if_pos e2]
                        · rw [if_neg e2, if_neg e2, if_neg e2]
                    rw [hfun]
                    exact t1.trans t2
              · cases hm
          · cases hm
      · cases hm
    · cases hm
  · cases hm
theorem ba_beq (a b : ByteArray) : (a == b) = (a.data.toList == b.data.toList) := by
  obtain ⟨⟨d⟩⟩ := a; obtain ⟨⟨d'⟩⟩ := b
  have h1 : ((⟨⟨d⟩⟩ : ByteArray) == ⟨⟨d'⟩⟩) = ((⟨d⟩ : Array UInt8) == ⟨d'⟩) := rfl
  rw [h1]; simp
theorem keyEq_same {k k' : Value} {b : Bool} (hk : keyEq k k' = some b) : scal k' = true ∧ (b = true → k = k') := by
  unfold keyEq at hk
  split at hk
  · injection hk with hk
    refine ⟨rfl, fun hb => ?_⟩
    rename_i x y
    rw [hb, byEq_ok] at hk
    have : x.data.toList = y.data.toList := by simpa using hk
    obtain ⟨⟨d⟩⟩ := x; obtain ⟨⟨d'⟩⟩ := y
    simp only at this; subst this; rfl
  · obtain ⟨h1, h2⟩ := bo_inv hk (by simp)
    injection h2 with h2
    refine ⟨rfl, fun hb => ?_⟩
    rw [hb, iEq_ok] at h2
    rw [ikn_inj h1, eq_of_beq h2]
  · injection hk with hk
    refine ⟨rfl, fun hb => ?_⟩
    rw [hb] at hk
    rw [eq_of_beq hk]
  · cases hk
theorem keyEq_now {kt : TypeId} {d : TypeDesc} {k k' : Value} {b : Bool} {el : TypeId} {t : TypeId} (hu : P.underlying t = some (.map kt el)) (hd : P.underlying kt = some d) (hk : keyTy P t k = some el) (he : keyEq k k' = some b) : Instr.sameNow d k k' = some b := by
  unfold keyTy at hk
  rw [hu] at hk
  simp only [hd] at hk
  unfold keyEq at he
  split at he
  · injection he with he; subst he
    split at hk
    · rename_i h2 h3; injection h2 with h2; subst h2
      simp only [Instr.sameNow, byEq_ok, ba_beq]
    · rename_i h2 h3; cases h3
    · rename_i h2 h3; cases h3
    · cases hk
  · obtain ⟨h1, h2⟩ := bo_inv he (by simp)
    injection h2 with h2; subst h2
    have := ikn_inj h1; subst this
    split at hk
    · rename_i h3; cases h3
    · rename_i h2 h3; injection h2 with h2; subst h2
      simp [Instr.sameNow, iEq_ok]
    · rename_i h3; cases h3
    · cases hk
  · injection he with he; subst he
    split at hk
    · rename_i h3; cases h3
    · rename_i h3; cases h3
    · rename_i h2 h3; injection h2 with h2; subst h2
      simp [Instr.sameNow]
    · cases hk
  · cases he
theorem keyTy_ok {t el : TypeId} {k : Value} (hk : keyTy P t k = some el) : ∃ kt d, P.underlying t = some (.map kt el) ∧ P.underlying kt = some d ∧ scal k = true ∧ (∀ b w, (Instr.checkKey b 10000 kt k).run P w = .ok () w) := by
  unfold keyTy at hk
  split at hk
  · rename_i kt v' hu
    split at hk
    · rename_i s hd
      injection hk with hk; subst hk
      refine ⟨kt, _, hu, hd, rfl, fun b w => ?_⟩
      show (Instr.checkKey b (9999 + 1) kt _).run P w = _
      unfold Instr.checkKey
      simp [run_underlying hd]
    · rename_i s hd
      injection hk with hk; subst hk
      refine ⟨kt, _, hu, hd, rfl, fun b w => ?_⟩
      show (Instr.checkKey b (9999 + 1) kt _).run P w = _
      unfold Instr.checkKey
      simp [run_underlying hd]
    · rename_i s hd
      injection hk with hk; subst hk
      refine ⟨kt, _, hu, hd, rfl, fun b w => ?_⟩
      show (Instr.checkKey b (9999 + 1) kt _).run P w = _
      unfold Instr.checkKey
      simp [run_underlying hd]
    · cases hk
  · cases hk
/-- What is found for a key. -/
def FoundR (σ : Sg) (k : Value) (es : List MapEntry) (i : Nat) : Option (Nat × Value) → Option (Nat × Value) → Prop
  | none, none => True
  | some (j, v), some (j', u) => j = j' ∧ i ≤ j ∧ j - i < es.length ∧ VR σ v u ∧ (∃ en, es[j - i]? = some en ∧ en.key = k)
  | _, _ => False
theorem findNow_cons (d : TypeDesc) (k : Value) (en : MapEntry) (es : List MapEntry) (i : Nat) : Instr.findNow d k (en :: es) i = match Instr.sameNow d k en.key with | some true => some (some (i, en.val)) | some false => Instr.findNow d k es (i + 1) | none => none := rfl
theorem findL_ok {σ : Sg} {kt el t : TypeId} {d : TypeDesc} {k : Value} (hu : P.underlying t = some (.map kt el)) (hd : P.underlying kt = some d) (hk : keyTy P t k = some el) : ∀ (l : List (Value × Value)) (es : List MapEntry) (i : Nat) {r : Option (Nat × Value)},
    findL k l i = some r → VRs σ (l.map (·.1)) (es.map (·.key)) → VRs σ (l.map (·.2)) (es.map (·.val)) → ∃ r', Instr.findNow d k es i = some r' ∧ FoundR σ k es i r r'
  | [], [], i, r, hf, _, _ => by injection hf with hf; subst hf; exact ⟨none, rfl, trivial⟩
  | [], _ :: _, i, r, hf, h1, _ => by cases h1
  | _ :: _, [], i, r, hf, h1, _ => by have := h1.len; simp at this
  | p :: l, en :: es, i, r, hf, h1, h2 => by
    obtain ⟨y, ys, e1, h3, h4⟩ := h1.inv
    injection e1 with e1 e2; subst e1; subst e2
    obtain ⟨z, zs, e1, h5, h6⟩ := h2.inv
    injection e1 with e1 e2; subst e1; subst e2
    unfold findL at hf
    split at hf
    · rename_i hq
      injection hf with hf; subst hf
      obtain ⟨hs, heq⟩ := keyEq_same hq
      have hkey : en.key = p.1 := h3.scal_inv hs
      refine ⟨some (i, en.val), ?_, rfl, Nat.le_refl _, by simp, h5, en, by simp, by rw [hkey, heq rfl]⟩
      rw [findNow_cons, hkey, keyEq_now hu hd hk hq]
    · rename_i hq
      obtain ⟨hs, _⟩ := keyEq_same hq
      have hkey : en.key = p.1 := h3.scal_inv hs
      obtain ⟨r', h7, h8⟩ := findL_ok hu hd hk l es (i + 1) hf h4 h6
      refine ⟨r', ?_, ?_⟩
      · rw [findNow_cons, hkey, keyEq_now hu hd hk hq]
        exact h7
      · cases r with
        | none => cases r' with
          | none => trivial
          | some _ => exact h8
        | some p => cases r' with
          | none => exact h8
          | some p' =>
            obtain ⟨j, v⟩ := p
            obtain ⟨j', u⟩ := p'
            obtain ⟨a1, a2, a3, a4, en', a5, a6⟩ := h8
            refine ⟨a1, by omega, by simp; omega, a4, en', ?_, a6⟩
            rw [show j - i = (j - (i + 1)) + 1 by omega]; simpa using a5
    · cases hf
theorem run_findKey {kt : TypeId} {d : TypeDesc} {k : Value} {es : List MapEntry} {r : Option (Nat × Value)} (hd : P.underlying kt = some d) (hf : Instr.findNow d k es 0 = some r) (w : World) : (Instr.findKey kt k es).run P w = .ok r w := by
  unfold Instr.findKey
  simp [run_underlying hd, hf]
theorem makeMap_good {t : TypeId} {r : Option Operand} (ho : o.op = .makeMap t r) (hm : mMakeMap P h nx t (r.map (evO G e)) = .ok v h' nx') : Good P G o e h nx v h' nx' := by
  have fin : ∀ (σ : Sg) (w : World), MR G σ h.get nx w → ∃ σ', VR σ' (.map (some nx)) (.map (some w.heap.size)) ∧ Tr G σ h.get nx w σ' (h.put nx (.map 0 [] [])).get (nx + 1) (w.alloc (.map #[] 0)) := fun σ w m => by
    have := m.new (w' := w.alloc (.map #[] 0)) ⟨w.heap.size, 0, 0⟩ (.map 0 [] []) rfl ⟨rfl, rfl, rfl⟩ (by simp) (fun r hr => Below.heap_alloc w _ r hr) (fun σ' hs => ⟨#[], heap_alloc_new w _, .nil, .nil, rfl⟩)
    rw [Tb.put_fun]
    exact ⟨_, .map (L := ⟨w.heap.size, 0, 0⟩) (by simp) .nil, this⟩
  unfold mMakeMap at hm
  split at hm
  · rename_i hr
    obtain ⟨rfl, rfl, rfl⟩ := newB_inv hm
    obtain rfl := map_nil hr
    intro σ w ρ oe m
    obtain ⟨σ', h1, h2⟩ := fin σ w m
    refine ⟨_, _, .inl ?_, σ', h1, h2⟩
    unfold execOp
    simp [ho, Instr.makeMap]
  · rename_i k n hr
    split at hm
    · rename_i kt el hu
      obtain ⟨rfl, rfl, rfl⟩ := newB_inv hm
      intro σ w ρ oe m
      obtain ⟨σ', h1, h2⟩ := fin σ w m
      cases r with
      | none => cases hr
      | some x =>
        simp only [Option.map_some, Option.some.injEq] at hr
        have hx := (oe x _ hr).scal_inv rfl
        refine ⟨_, _, .inl ?_, σ', h1, h2⟩
        unfold execOp
        simp [ho, hx, Instr.makeMap, run_underlying hu, asInt, asIntOf]
    · cases hm
  · cases hm
theorem mapL_ok {σ : Sg} {w : World} {r : Option Nat} {l : List (Value × Value)} {u : Value} (m : MR G σ h.get nx w) (hl : mapL h r = some l) (hu : VR σ (.map r) u) :
    ∃ (es : List MapEntry), VRs σ (l.map (·.1)) (es.map (·.key)) ∧ VRs σ (l.map (·.2)) (es.map (·.val)) ∧
      ((u = .map none ∧ es = []) ∨ ∃ (L : Loc) (clock : Nat), r.isSome = true ∧ u = .map (some L.blk) ∧ w.heap[L.blk]? = some (.map es.toArray clock)) := by
  cases r with
  | none =>
    injection hl with hl; subst hl
    exact ⟨[], .nil, .nil, .inl ⟨hu.scal_inv rfl, rfl⟩⟩
  | some id =>
    unfold mapL at hl
    simp only at hl
    split at hl
    · rename_i clock bs l' hb
      injection hl with hl; subst hl
      obtain ⟨L, hL, rfl⟩ := hu.map_inv
      obtain ⟨L', hL', es, h2, h3, h4, h5⟩ := m.blk id _ hb
      rw [hL] at hL'; injection hL' with hL'; subst hL'
      exact ⟨es.toList, h3, h4, .inr ⟨L, clock, rfl, rfl, by simpa using h2⟩⟩
    · cases hl
theorem lookup_good {t : TypeId} {x k : Operand} {ok : Bool} (ho : o.op = .lookup t x k ok) (hm : mLookup P h nx t ok (evO G e x) (evO G e k) = .ok v h' nx') : Good P G o e h nx v h' nx' := by
  unfold mLookup at hm
  split at hm
  · rename_i r kv h1 h2
    split at hm
    · rename_i el l hkt hl
      obtain ⟨kt, d, hu, hd, hsc, hck⟩ := keyTy_ok hkt
      have fin : ∀ (σ : Sg) (w : World) (ρ : Operand → Value) (es : List MapEntry) (r' : Option (Nat × Value)) (res : Value) (b : Bool), ρ k = kv → ((ρ x = .map none ∧ es = []) ∨ ∃ (L : Loc) (clock : Nat), r.isSome = true ∧ ρ x = .map (some L.blk) ∧ w.heap[L.blk]? = some (.map es.toArray clock)) →
          Instr.findNow d kv es 0 = some r' → (match r' with | some (_, v) => res = v ∧ b = true | none => (∃ i, P.info? el = some i ∧ i.zero = some res) ∧ b = false) → (execOp ρ o).run P w = .ok (.value (if ok then .tuple #[res, .bool b] else res)) w := by
        intro σ w ρ es r' res b hkv hx hf hr
        have hfk := run_findKey (P := P) hd hf w
        have hlk : (Instr.lookup t (ρ x) (ρ k) ok).run P w = .ok (if ok then .tuple #[res, .bool b] else res) w := by
          rw [hkv]
          unfold Instr.lookup
          simp only [Sem.run_bind, run_underlying hu, Result.andThen_ok]
          rcases hx with ⟨hx, rfl⟩ | ⟨L, clock, _, hx, hb⟩
          · rw [hx]
            simp only [Sem.run_bind, Sem.run_pure, Result.andThen_ok, hck, hfk]
            cases r' with
            | none =>
              obtain ⟨⟨i, hi, hz⟩, rfl⟩ := hr
              simp [zeroValue, typeInfo, hi, hz]
            | some p => obtain ⟨j, u⟩ := p; obtain ⟨rfl, rfl⟩ := hr; simp
          · rw [hx]
            simp only [Sem.run_bind, Sem.run_pure, Result.andThen_ok, run_getMap hb, hck, hfk]
            cases r' with
            | none =>
              obtain ⟨⟨i, hi, hz⟩, rfl⟩ := hr
              simp [zeroValue, typeInfo, hi, hz]
            | some p => obtain ⟨j, u⟩ := p; obtain ⟨rfl, rfl⟩ := hr; simp
        unfold execOp
        simp only [ho, Sem.run_bind, hlk, Result.andThen_ok]
        rfl
      have tup : ∀ (σ : Sg) (a u : Value) (b : Bool), VR σ a u → VR σ (bo ok (.tuple ⟨[a, .bool b]⟩) a) (if ok then .tuple #[u, .bool b] else u) := fun σ a u b hv => by
        cases ok with
        | true => exact .tuple (xs := [a, .bool b]) (ys := [u, .bool b]) (.cons hv VR.bool) .nil
        | false => exact hv
      split at hm
      · rename_i j a hf
        obtain ⟨rfl, rfl, rfl⟩ := ok_inj hm
        refine good_pure fun σ w ρ oe m => ?_
        obtain ⟨es, h3, h4, h5⟩ := mapL_ok m hl (oe x _ h1)
        obtain ⟨r', h6, h7⟩ := findL_ok hu hd hkt l es 0 hf h3 h4
        cases r' with
        | none => exact h7.elim
        | some p =>
          obtain ⟨j', u⟩ := p
          obtain ⟨_, _, _, hv, _⟩ := h7
          exact ⟨_, tup σ a u true hv, fin σ w ρ es _ u true ((oe k _ h2).scal_inv hsc) h5 h6 ⟨rfl, rfl⟩⟩
      · rename_i hf
        split at hm
        · rename_i z hz
          obtain ⟨rfl, rfl, rfl⟩ := ok_inj hm
          refine good_pure fun σ w ρ oe m => ?_
          obtain ⟨es, h3, h4, h5⟩ := mapL_ok m hl (oe x _ h1)
          obtain ⟨r', h6, h7⟩ := findL_ok hu hd hkt l es 0 hf h3 h4
          cases r' with
          | some p => exact h7.elim
          | none =>
            obtain ⟨i, hi, hiz, hfl⟩ := zeroTy_info hz
            exact ⟨_, tup σ z z false (VR.of_flat hfl), fin σ w ρ es _ z false ((oe k _ h2).scal_inv hsc) h5 h6 ⟨⟨i, hi, hiz⟩, rfl⟩⟩
        · cases hm
      · cases hm
    · cases hm
  · cases hm
theorem VRs.set {σ : Sg} : ∀ {us vs : List Value} (i : Nat) {a b : Value}, VRs σ us vs → VR σ a b → VRs σ (us.set i a) (vs.set i b)
  | [], vs, i, a, b, h1, _ => by rw [h1.inv_nil]; simp; exact .nil
  | x :: us, vs, i, a, b, h1, h2 => by
    obtain ⟨y, vs', rfl, h3, h4⟩ := h1.inv
    cases i with
    | zero => exact .cons h2 h4
    | succ i => exact .cons h3 (h4.set i h2)
theorem keyTy_bits {t el : TypeId} {k : Value} (n : Nat) (hk : keyTy P t k = some el) : Instr.sameBits n k k = true := by
  have hs : ∀ s : ByteArray, (s == s) = true := fun s => by rw [ba_beq]; simp
  unfold keyTy at hk
  split at hk
  · split at hk
    · rename_i s _; simp [Instr.sameBits, hs]
    · simp [Instr.sameBits]
    · simp [Instr.sameBits]
    · cases hk
  · cases hk
theorem update_good {t : TypeId} {mp k x : Operand} (ho : o.op = .mapUpdate t mp k x ∨ o.op = .insert t mp k x) (hm : mUpdate P h nx t (evO G e mp) (evO G e k) (evO G e x) = .ok v h' nx') : Good P G o e h nx v h' nx' := by
  unfold mUpdate at hm
  simp only [putS_eq, listS_eq, natS_eq] at hm
  split at hm
  · rename_i id kv xv h1 h2 h3
    split at hm
    · rename_i el clock bs l hkt hb
      obtain ⟨kt, d, hu, hd, hsc, hck⟩ := keyTy_ok hkt
      have fin : ∀ (σ : Sg) (w : World) (ρ : Operand → Value) (L : Loc) (es : Array MapEntry) (es' : Array MapEntry) (clock' : Nat) (bs' : List Nat) (l' : List (Value × Value)), MR G σ h.get nx w → σ id = some L → w.heap[L.blk]? = some (.map es clock) →
          (Instr.mapUpdate t (.map (some L.blk)) kv (ρ x)).run P w = .ok () { w with heap := w.heap.setIfInBounds L.blk (.map es' clock') } → ρ mp = .map (some L.blk) → ρ k = kv → VRs σ (l'.map (·.1)) (es'.toList.map (·.key)) → VRs σ (l'.map (·.2)) (es'.toList.map (·.val)) → es'.toList.map (·.born) = bs' →
          Does P ρ o w fun u w' => ∃ σ', VR σ' undef u ∧ Tr G σ h.get nx w σ' (h.put id (.map clock' bs' l')).get nx w' := by
        intro σ w ρ L es es' clock' bs' l' m hL hbk hrun hmp hkv hk1 hk2 hk3
        refine ⟨undef, { w with heap := w.heap.setIfInBounds L.blk (.map es' clock') }, .inr ⟨?_, rfl⟩, σ, VR.undef, ?_⟩
        · unfold execOp
          rcases ho with ho | ho <;> simp only [ho, hmp, hkv, Sem.run_bind, hrun, Result.andThen_ok] <;> rfl
        · rw [Tb.put_fun]
          have hlt : L.blk < w.heap.size := (Array.getElem?_eq_some_iff.1 hbk).1
          exact m.upd hb hL ⟨es', by simp [hlt], hk1, hk2, hk3⟩ ⟨rfl, rfl, rfl⟩ (by simp) (fun r hr => by simp [Array.getElem?_setIfInBounds_ne (Ne.symm hr)])
      split at hm
      · rename_i j a hf
        obtain ⟨rfl, rfl, rfl⟩ := ok_inj hm
        intro σ w ρ oe m
        obtain ⟨L, hL, hmp⟩ := (oe mp _ h1).map_inv
        obtain ⟨L', hL', es, hbk, h4, h5, h5b⟩ := m.blk id _ hb
        rw [hL] at hL'; injection hL' with hL'; subst hL'
        obtain ⟨r', h6, h7⟩ := findL_ok hu hd hkt l es.toList 0 hf h4 h5
        cases r' with
        | none => exact h7.elim
        | some p =>
          obtain ⟨j', u⟩ := p
          obtain ⟨rfl, _, hjl, hv, en, hen, hkey⟩ := h7
          rw [Nat.sub_zero] at hen hjl
          have hkv := (oe k _ h2).scal_inv hsc
          refine fin σ w ρ L es (es.modify j fun e => { e with key := kv, val := ρ x }) clock bs (l.set j (kv, xv)) m hL hbk ?_ hmp hkv ?_ ?_ ?_
          · have hfk := run_findKey (P := P) hd h6 w
            have hold : ((es[j]?).map (·.key)).getD kv = kv := by
              have : es[j]? = some en := by simpa using hen
              rw [this]; exact hkey
            unfold Instr.mapUpdate
            simp only [Sem.run_bind, run_underlying hu, Result.andThen_ok, run_getMap hbk, hck, hfk, hold, Instr.keyThatStays, keyTy_bits 10000 hkt, if_true, Sem.run_pure]
            unfold setObj
            simp only [Sem.run, hbk]
          · rw [List.map_set]
            have : ((es.modify j fun e => { e with key := kv, val := ρ x }).toList.map (·.key)) = (es.toList.map (·.key)).set j kv := by
              apply List.ext_getElem?
              intro i
              rw [Array.toList_modify, List.getElem?_map, List.getElem?_modify, List.getElem?_set, List.getElem?_map]
              by_cases hij : j = i
              · subst hij; simp [hen]
                simpa using hjl
              · simp [hij]
            rw [this]
            exact h4.set j (by have := oe k _ h2; rw [hkv] at this; exact this)
          · rw [List.map_set]
            have : ((es.modify j fun e => { e with key := kv, val := ρ x }).toList.map (·.val)) = (es.toList.map (·.val)).set j (ρ x) := by
              apply List.ext_getElem?
              intro i
              rw [Array.toList_modify, List.getElem?_map, List.getElem?_modify, List.getElem?_set, List.getElem?_map]
              by_cases hij : j = i
              · subst hij; simp [hen]
                simpa using hjl
              · simp [hij]
            rw [this]
            exact h5.set j (oe x _ h3)
          · rw [← h5b]
            apply List.ext_getElem?
            intro i
            rw [Array.toList_modify, List.getElem?_map, List.getElem?_modify, List.getElem?_map]
            by_cases hij : j = i
            · subst hij; simp [hen]
            · simp [hij]
      · rename_i hf
        obtain ⟨rfl, rfl, rfl⟩ := ok_inj hm
        intro σ w ρ oe m
        obtain ⟨L, hL, hmp⟩ := (oe mp _ h1).map_inv
        obtain ⟨L', hL', es, hbk, h4, h5, h5b⟩ := m.blk id _ hb
        rw [hL] at hL'; injection hL' with hL'; subst hL'
        obtain ⟨r', h6, h7⟩ := findL_ok hu hd hkt l es.toList 0 hf h4 h5
        cases r' with
        | some p => exact h7.elim
        | none =>
          have hkv := (oe k _ h2).scal_inv hsc
          refine fin σ w ρ L es (es.push { key := kv, val := ρ x, born := clock }) (clock + 1) (bs ++ [clock]) (l ++ [(kv, xv)]) m hL hbk ?_ hmp hkv ?_ ?_ ?_
          · have hfk := run_findKey (P := P) hd h6 w
            unfold Instr.mapUpdate
            simp only [Sem.run_bind, run_underlying hu, Result.andThen_ok, run_getMap hbk, hck, hfk]
            unfold setObj
            simp only [Sem.run, hbk]
          · rw [List.map_append, Array.toList_push, List.map_append]
            exact h4.append (by have := oe k _ h2; rw [hkv] at this; exact this)
          · rw [List.map_append, Array.toList_push, List.map_append]
            exact h5.append (oe x _ h3)
          · rw [← h5b]; simp
      · cases hm
    · cases hm
  · cases hm
theorem mk_ptr0 {σ : Sg} {id : Nat} {L : Loc} (h : σ id = some L) (hb : L.base = 0) : VR σ (.pointer (some ⟨id, 0, none⟩)) (.pointer (some ⟨L.blk, 0, none⟩)) := by
  have := VRs.ptr (off := 0) h (VRs.nil (σ := σ))
  rw [hb] at this; exact this
theorem range_good {t : TypeId} {x : Operand} (ho : o.op = .range t x) (hm : mRange P h nx t (evO G e x) = .ok v h' nx') : Good P G o e h nx v h' nx' := by
  have fin : ∀ (σ : Sg) (w : World) (ob : Obj) (B : Bl), MR G σ h.get nx w → (∀ σ' : Sg, σ.le σ' → BR σ' ⟨w.heap.size, 0, 0⟩ (w.alloc ob) B) → ∃ σ', VR σ' (.pointer (some ⟨nx, 0, none⟩)) (.pointer (some ⟨w.heap.size, 0, none⟩)) ∧ Tr G σ h.get nx w σ' (h.put nx B).get (nx + 1) (w.alloc ob) := fun σ w ob B m hbr => by
    have := m.new (w' := w.alloc ob) ⟨w.heap.size, 0, 0⟩ B rfl ⟨rfl, rfl, rfl⟩ (by simp) (fun r hr => Below.heap_alloc w _ r hr) hbr
    rw [Tb.put_fun]
    exact ⟨_, mk_ptr0 (L := ⟨w.heap.size, 0, 0⟩) (by simp) rfl, this⟩
  unfold mRange at hm
  split at hm
  · rename_i s h1
    split at hm
    · rename_i hu
      obtain ⟨rfl, rfl, rfl⟩ := newB_inv hm
      intro σ w ρ oe m
      have hx := (oe x _ h1).scal_inv rfl
      obtain ⟨σ', h2, h3⟩ := fin σ w (.stringIter s 0) (.iter s 0) m (fun σ' _ => ⟨rfl, heap_alloc_new w _⟩)
      refine ⟨_, _, .inl ?_, σ', h2, h3⟩
      unfold execOp
      simp [ho, hx, Instr.range, run_underlying hu]
    · cases hm
  · rename_i h1
    split at hm
    · rename_i k el hu
      obtain ⟨rfl, rfl, rfl⟩ := newB_inv hm
      intro σ w ρ oe m
      have hx := (oe x _ h1).scal_inv rfl
      obtain ⟨σ', h2, h3⟩ := fin σ w (.mapIter none 0 #[] 0) (.miter none 0 [] 0) m (fun σ' _ => ⟨rfl, none, fun id h => (by cases h), fun _ => rfl, heap_alloc_new w _⟩)
      refine ⟨_, _, .inl ?_, σ', h2, h3⟩
      unfold execOp
      simp [ho, hx, Instr.range, run_underlying hu]
    · cases hm
  · rename_i id h1
    split at hm
    · rename_i k el cl bs l hu hb
      obtain ⟨rfl, rfl, rfl⟩ := newB_inv hm
      intro σ w ρ oe m
      obtain ⟨L, hL, hx⟩ := (oe x _ h1).map_inv
      obtain ⟨L', hL', es, hbk, _⟩ := m.blk id _ hb
      rw [hL] at hL'; injection hL' with hL'; subst hL'
      obtain ⟨σ', h2, h3⟩ := fin σ w (.mapIter (some L.blk) cl #[] cl) (.miter (some id) cl [] cl) m (fun σ' hs => ⟨rfl, some L.blk, fun id' h => (by injection h with h; subst h; exact ⟨L, hs _ _ hL, rfl⟩), fun h => (by cases h), heap_alloc_new w _⟩)
      refine ⟨_, _, .inl ?_, σ', h2, h3⟩
      have hg := run_getMap (P := P) hbk
      unfold execOp
      simp [ho, hx, Instr.range, run_underlying hu, hg]
    · cases hm
  · cases hm
theorem leftL_ok {σ : Sg} {seen : List Nat} : ∀ (bs : List Nat) (l : List (Value × Value)) (es : List MapEntry), VRs σ (l.map (·.1)) (es.map (·.key)) → VRs σ (l.map (·.2)) (es.map (·.val)) → es.map (·.born) = bs →
    ∃ es', es.filter (fun e => !seen.contains e.born) = es' ∧ VRs σ ((leftL seen bs l).map (·.2.1)) (es'.map (·.key)) ∧ VRs σ ((leftL seen bs l).map (·.2.2)) (es'.map (·.val)) ∧ es'.map (·.born) = (leftL seen bs l).map (·.1)
  | bs, [], es, h1, _, h3 => by
    have : es = [] := List.eq_nil_of_length_eq_zero (by have := h1.len; simpa using this.symm)
    subst this
    cases bs with
    | nil => exact ⟨[], rfl, .nil, .nil, rfl⟩
    | cons b bs => cases h3
  | bs, p :: l, [], h1, _, _ => by have := h1.len; simp at this
  | [], p :: l, en :: es, _, _, h3 => by cases h3
  | b :: bs, p :: l, en :: es, h1, h2, h3 => by
    simp only [List.map_cons, List.cons.injEq] at h3
    obtain ⟨y, ys, e1, h4, h5⟩ := h1.inv
    injection e1 with e1 e2; subst e1; subst e2
    obtain ⟨z, zs, e1, h6, h7⟩ := h2.inv
    injection e1 with e1 e2; subst e1; subst e2
    obtain ⟨es', h8, h9, h10, h11⟩ := leftL_ok (seen := seen) bs l es h5 h7 h3.2
    unfold leftL
    rw [List.filter_cons, h3.1, h8]
    cases hc : seen.contains b with
    | true => rw [bo_true]; exact ⟨es', by simp, h9, h10, h11⟩
    | false =>
      rw [bo_false]
      exact ⟨en :: es', by simp, .cons h4 h9, .cons h6 h10, by simp [h3.1, h11]⟩
theorem next_good {x : Operand} {b : Bool} (ho : o.op = .next x b) (hm : mNext h nx b (evO G e x) = .ok v h' nx') : Good P G o e h nx v h' nx' := by
  unfold mNext at hm
  simp only [putS_eq, listS_eq, natS_eq] at hm
  split at hm
  · rename_i id h1
    split at hm
    · rename_i s pos hb
      obtain ⟨hbt, hm⟩ := bo_inv hm (by simp)
      subst hbt
      have key : ∀ (σ : Sg) (w : World) (ρ : Operand → Value), OE σ G e ρ → MR G σ h.get nx w → ∃ L, σ id = some L ∧ ρ x = .pointer (some ⟨L.blk, 0, none⟩) ∧ w.heap[L.blk]? = some (.stringIter s pos) ∧ L.base = 0 := fun σ w ρ oe m => by
        obtain ⟨L, hL, hx⟩ := (oe x _ h1).ptr_inv
        obtain ⟨L', hL', hb0, hbk⟩ := m.blk id _ hb
        rw [hL] at hL'; injection hL' with hL'; subst hL'
        exact ⟨L, hL, by rw [hx, hb0], hbk, hb0⟩
      have hsz : s.size = s.data.toList.length := by obtain ⟨d⟩ := s; rfl
      cases hlt : Nat.blt pos s.data.toList.length with
      | true =>
        rw [hlt, bo_true] at hm
        obtain ⟨rfl, rfl, rfl⟩ := ok_inj hm
        have hlt := blt_lt hlt
        rw [← hsz] at hlt
        intro σ w ρ oe m
        obtain ⟨L, hL, hx, hbk, hb0⟩ := key σ w ρ oe m
        have hl : L.blk < w.heap.size := (Array.getElem?_eq_some_iff.1 hbk).1
        refine ⟨.tuple #[.bool true, goInt pos, .int .i32 (Utf8.decode s pos).1], { w with heap := w.heap.setIfInBounds L.blk (.stringIter s (pos + (Utf8.decode s pos).2)) }, .inl ?_, σ, ?_, ?_⟩
        · unfold execOp
          simp only [ho, hx, Instr.next, getObj, setObj, Sem.run_bind, Sem.run, hbk, Result.andThen_ok, hlt, if_true]
          rfl
        · exact .tuple (xs := [_, _, _]) (ys := [_, _, _]) (.cons VR.bool (.cons VR.int (.cons VR.int .nil))) .nil
        · rw [Tb.put_fun]
          exact m.upd hb hL ⟨hb0, by simp [hl]⟩ ⟨rfl, rfl, rfl⟩ (by simp) (fun r hr => by simp [Array.getElem?_setIfInBounds_ne (Ne.symm hr)])
      | false =>
        rw [hlt, bo_false] at hm
        obtain ⟨rfl, rfl, rfl⟩ := ok_inj hm
        have hlt : ¬ pos < s.size := fun hh => by
          rw [hsz] at hh
          have : Nat.blt pos s.data.toList.length = true := by rw [blt_dec]; simpa using hh
          rw [this] at hlt; cases hlt
        refine good_pure fun σ w ρ oe m => ?_
        obtain ⟨L, hL, hx, hbk, hb0⟩ := key σ w ρ oe m
        refine ⟨.tuple #[.bool false], .tuple (xs := [_]) (ys := [_]) VR.bool .nil, ?_⟩
        unfold execOp
        simp only [ho, hx, Instr.next, getObj, Sem.run_bind, Sem.run, hbk, Result.andThen_ok, hlt, if_false]
        rfl
    · rename_i since seen last hb
      cases b with
      | true => cases hm
      | false =>
        rw [bo_false] at hm
        obtain ⟨rfl, rfl, rfl⟩ := ok_inj hm
        refine good_pure fun σ w ρ oe m => ?_
        obtain ⟨L, hL, hx⟩ := (oe x _ h1).ptr_inv
        obtain ⟨L', hL', hb0, r, _, hr, hbk⟩ := m.blk id _ hb
        rw [hL] at hL'; injection hL' with hL'; subst hL'
        rw [hb0] at hx
        rw [hr rfl] at hbk
        refine ⟨.tuple #[.bool false], .tuple (xs := [_]) (ys := [_]) VR.bool .nil, ?_⟩
        unfold execOp
        simp only [ho, hx, Instr.next, getObj, Sem.run_bind, Sem.run, hbk, Result.andThen_ok]
        rfl
    · rename_i mid since seen last hb
      cases b with
      | true => cases hm
      | false =>
        rw [bo_false] at hm
        split at hm
        · rename_i cl bs l hmb
          cases hall : (!seen.isEmpty && (!bs.isEmpty && bs.all (fun b => Nat.ble last b))) with
          | true => rw [hall] at hm; cases hm
          | false =>
            rw [hall, bo_false] at hm
            have key : ∀ (σ : Sg) (w : World) (ρ : Operand → Value), OE σ G e ρ → MR G σ h.get nx w → ∃ (L L2 : Loc) (es : Array MapEntry), σ id = some L ∧ σ mid = some L2 ∧ ρ x = .pointer (some ⟨L.blk, 0, none⟩) ∧ w.heap[L.blk]? = some (.mapIter (some L2.blk) since ⟨seen⟩ last) ∧ L.base = 0 ∧ w.heap[L2.blk]? = some (.map es cl) ∧
                VRs σ (l.map (·.1)) (es.toList.map (·.key)) ∧ VRs σ (l.map (·.2)) (es.toList.map (·.val)) ∧ es.toList.map (·.born) = bs ∧ (!(⟨seen⟩ : Array Nat).isEmpty && !es.isEmpty && es.all (fun e => decide (e.born ≥ last))) = false := fun σ w ρ oe m => by
              obtain ⟨L, hL, hx⟩ := (oe x _ h1).ptr_inv
              obtain ⟨L', hL', hb0, r, hr, _, hbk⟩ := m.blk id _ hb
              rw [hL] at hL'; injection hL' with hL'; subst hL'
              obtain ⟨L2, hL2, rfl⟩ := hr mid rfl
              obtain ⟨L3, hL3, es, hbk2, k1, k2, k3⟩ := m.blk mid _ hmb
              rw [hL2] at hL3; injection hL3 with hL3; subst hL3
              refine ⟨L, L2, es, hL, hL2, by rw [hx, hb0], hbk, hb0, hbk2, k1, k2, k3, ?_⟩
              subst k3
              obtain ⟨el⟩ := es
              rw [← hall]
              have e1 : (⟨seen⟩ : Array Nat).isEmpty = seen.isEmpty := by cases seen <;> rfl
              have e2 : (⟨el⟩ : Array MapEntry).isEmpty = (el.map (·.born)).isEmpty := by cases el <;> rfl
              have e3 : (⟨el⟩ : Array MapEntry).all (fun e => decide (e.born ≥ last)) = (el.map (·.born)).all (fun b => Nat.ble last b) := by
                rw [← Array.all_toList, List.all_map]
                congr 1
                funext en
                show decide (last ≤ en.born) = Nat.ble last en.born
                cases hq : Nat.ble last en.born with
                | true => have := Nat.le_of_ble_eq_true hq; simp [this]
                | false => have : ¬ last ≤ en.born := fun hh => by rw [Nat.ble_eq_true_of_le hh] at hq; cases hq
                           simp [this]
              rw [e1, e2, e3, Bool.and_assoc]
            split at hm
            · rename_i hleft
              obtain ⟨rfl, rfl, rfl⟩ := ok_inj hm
              refine good_pure fun σ w ρ oe m => ?_
              obtain ⟨L, L2, es, hL, hL2, hx, hbk, hb0, hbk2, k1, k2, k3, k4⟩ := key σ w ρ oe m
              obtain ⟨es', g1, g2, g3, g4⟩ := leftL_ok (seen := seen) bs l es.toList k1 k2 k3
              rw [hleft] at g4
              have hes : es' = [] := by simpa using g4
              have hfil : es.filter (fun e => !(⟨seen⟩ : Array Nat).contains e.born) = #[] := by
                apply Array.ext'
                rw [Array.toList_filter]
                have : (es.toList.filter fun e => !(⟨seen⟩ : Array Nat).contains e.born) = es.toList.filter (fun e => !seen.contains e.born) := by simp
                rw [this, g1, hes]
              refine ⟨.tuple #[.bool false], .tuple (xs := [_]) (ys := [_]) VR.bool .nil, ?_⟩
              unfold execOp
              simp only [ho, hx, Instr.next, getObj, Sem.run_bind, Sem.run, hbk, hbk2, Result.andThen_ok, k4, Bool.false_eq_true, if_false, hfil]
              simp [Question.forced]
            · rename_i bb kk vv hleft
              obtain ⟨hlt, hm⟩ := bo_inv hm (by simp)
              have hlt := blt_lt hlt
              obtain ⟨rfl, rfl, rfl⟩ := ok_inj hm
              intro σ w ρ oe m
              obtain ⟨L, L2, es, hL, hL2, hx, hbk, hb0, hbk2, k1, k2, k3, k4⟩ := key σ w ρ oe m
              obtain ⟨es', g1, g2, g3, g4⟩ := leftL_ok (seen := seen) bs l es.toList k1 k2 k3
              rw [hleft] at g2 g3 g4
              obtain ⟨en, hes⟩ : ∃ en, es' = [en] := by
                cases es' with
                | nil => simp at g4
                | cons en es' => cases es' with
                  | nil => exact ⟨en, rfl⟩
                  | cons => simp at g4
              subst hes
              have hborn : en.born = bb := by simpa using g4
              have hfil : es.filter (fun e => !(⟨seen⟩ : Array Nat).contains e.born) = #[en] := by
                apply Array.ext'
                rw [Array.toList_filter]
                have : (es.toList.filter fun e => !(⟨seen⟩ : Array Nat).contains e.born) = es.toList.filter (fun e => !seen.contains e.born) := by simp
                rw [this, g1]
              have hl : L.blk < w.heap.size := (Array.getElem?_eq_some_iff.1 hbk).1
              refine ⟨.tuple #[.bool true, en.key, en.val], { w with heap := w.heap.setIfInBounds L.blk (.mapIter (some L2.blk) since ⟨seen ++ [bb]⟩ cl) }, .inl ?_, σ, ?_, ?_⟩
              · unfold execOp
                simp only [ho, hx, Instr.next, getObj, Sem.run_bind, Sem.run, hbk, hbk2, Result.andThen_ok, k4, Bool.false_eq_true, if_false, hfil]
                simp [Question.forced, hborn, hlt, setObj, Sem.run, hbk]
              · exact .tuple (xs := [_, _, _]) (ys := [_, _, _]) (.cons VR.bool (g2.append g3)) .nil
              · rw [Tb.put_fun]
                exact m.upd hb hL ⟨hb0, some L2.blk, fun i hi => by injection hi with hi; subst hi; exact ⟨L2, hL2, rfl⟩, fun hi => (by cases hi), by simp [hl]⟩ ⟨rfl, rfl, rfl⟩ (by simp) (fun r hr => by simp [Array.getElem?_setIfInBounds_ne (Ne.symm hr)])
            · cases hm
        · cases hm
    · cases hm
  · cases hm
end
end Go.Proofs.YthdlljlcffokbaaDoor
namespace Go.Proofs.YthdlljlcffokbaaDoor
open Go.RowKit

section
variable {P : Program} {G : Nat} {o : Oper} {e : Tb Value} {h h' : Hp} {nx nx' : Nat} {v : Value}
theorem findB_ok {σ : Sg} {b : Nat} {k x : Value} : ∀ {bs : List Nat} {l : List (Value × Value)} {es : List MapEntry}, findB b bs l = some (k, x) → VRs σ (l.map (·.1)) (es.map (·.key)) → VRs σ (l.map (·.2)) (es.map (·.val)) → es.map (·.born) = bs →
    ∃ en, es.find? (fun e => e.born == b) = some en ∧ VR σ k en.key ∧ VR σ x en.val
  | [], _, _, hf, _, _, _ => by simp [findB] at hf
  | _ :: _, [], _, hf, _, _, _ => by simp [findB] at hf
  | _ :: _, _ :: _, [], _, _, _, h3 => by cases h3
  | c :: bs, p :: l, en :: es, hf, h1, h2, h3 => by
    simp only [List.map_cons, List.cons.injEq] at h3
    obtain ⟨y, ys, e1, h4, h5⟩ := h1.inv
    injection e1 with e1 e2; subst e1; subst e2
    obtain ⟨z, zs, e1, h6, h7⟩ := h2.inv
    injection e1 with e1 e2; subst e1; subst e2
    unfold findB at hf
    cases hc : Nat.beq c b with
    | true =>
      rw [hc, bo_true] at hf; injection hf with hf
      have := Nat.eq_of_beq_eq_true hc
      refine ⟨en, by simp [h3.1, this], ?_, ?_⟩
      · rw [show k = p.1 by rw [hf]]; exact h4
      · rw [show x = p.2 by rw [hf]]; exact h6
    | false =>
      rw [hc, bo_false] at hf
      obtain ⟨en', h8, h9, h10⟩ := findB_ok hf h5 h7 h3.2
      refine ⟨en', ?_, h9, h10⟩
      have : ¬ en.born = b := fun hh => by rw [h3.1] at hh; subst hh; simp at hc
      simp [this, h8]
theorem entry_good {x : Operand} (ho : o.op = .entry x) (hm : mEntry h nx (evO G e x) = .ok v h' nx') : Good P G o e h nx v h' nx' := by
  unfold mEntry at hm
  split at hm
  · rename_i id h1
    split at hm
    · rename_i mid since seen last hb
      split at hm
      · rename_i cl bs l b hmb hla
        obtain ⟨hcl, hm⟩ := bo_inv hm (by simp)
        have hcl := Nat.eq_of_beq_eq_true hcl
        split at hm
        · rename_i kk vv hf
          obtain ⟨rfl, rfl, rfl⟩ := ok_inj hm
          refine good_pure fun σ w ρ oe m => ?_
          obtain ⟨L, hL, hx⟩ := (oe x _ h1).ptr_inv
          obtain ⟨L', hL', hb0, r, hr, _, hbk⟩ := m.blk id _ hb
          rw [hL] at hL'; injection hL' with hL'; subst hL'
          obtain ⟨L2, hL2, rfl⟩ := hr mid rfl
          obtain ⟨L3, hL3, es, hbk2, k1, k2, k3⟩ := m.blk mid _ hmb
          rw [hL2] at hL3; injection hL3 with hL3; subst hL3
          obtain ⟨en, h4, h5, h6⟩ := findB_ok hf k1 k2 k3
          rw [hb0] at hx
          have h4' : es.find? (fun e => e.born == b) = some en := by rw [← Array.find?_toList]; exact h4
          have hlast : (⟨seen⟩ : Array Nat).back? = some b := by simpa using hla
          refine ⟨.tuple #[en.key, en.val], .tuple (xs := [_, _]) (ys := [_, _]) (.cons h5 h6) .nil, ?_⟩
          unfold execOp
          simp only [ho, hx, Instr.entry, getObj, Sem.run_bind, Sem.run, hbk, hbk2, Result.andThen_ok, hlast, hcl, h4', bne_self_eq_false, Bool.false_eq_true, if_false]
          rfl
        · cases hm
      · cases hm
    · cases hm
  · cases hm
theorem mapEntry_good {t : TypeId} {mp k : Operand} (ho : o.op = .mapEntry t mp k) (hm : mMapEntry P h nx t (evO G e mp) (evO G e k) = .ok v h' nx') : Good P G o e h nx v h' nx' := by
  unfold mMapEntry at hm
  simp only [putS_eq, listS_eq, natS_eq] at hm
  split at hm
  · rename_i id kv h1 h2
    split at hm
    · rename_i el clock bs l hkt hb
      obtain ⟨kt, d, hu, hd, hsc, hck⟩ := keyTy_ok hkt
      have fin : ∀ (σ : Sg) (w : World) (ρ : Operand → Value) (L : Loc) (es : Array MapEntry) (es' : Array MapEntry) (clock' : Nat) (bs' : List Nat) (l' : List (Value × Value)) (a u : Value) (b : Nat), MR G σ h.get nx w → σ id = some L → w.heap[L.blk]? = some (.map es clock) → VR σ a u →
          (Instr.mapEntry t (.map (some L.blk)) kv).run P w = .ok (.tuple #[u, goInt b]) { w with heap := w.heap.setIfInBounds L.blk (.map es' clock') } → ρ mp = .map (some L.blk) → ρ k = kv → VRs σ (l'.map (·.1)) (es'.toList.map (·.key)) → VRs σ (l'.map (·.2)) (es'.toList.map (·.val)) → es'.toList.map (·.born) = bs' →
          Does P ρ o w fun x w' => ∃ σ', VR σ' (.tuple ⟨[a, .int .i64 (.ofNat b)]⟩) x ∧ Tr G σ h.get nx w σ' (h.put id (.map clock' bs' l')).get nx w' := by
        intro σ w ρ L es es' clock' bs' l' a u b m hL hbk hau hrun hmp hkv hk1 hk2 hk3
        refine ⟨.tuple #[u, goInt b], { w with heap := w.heap.setIfInBounds L.blk (.map es' clock') }, .inl ?_, σ, .tuple (xs := [_, _]) (ys := [_, _]) (.cons hau VR.int) .nil, ?_⟩
        · unfold execOp
          simp only [ho, hmp, hkv, Sem.run_bind, hrun, Result.andThen_ok]
          rfl
        · rw [Tb.put_fun]
          have hlt : L.blk < w.heap.size := (Array.getElem?_eq_some_iff.1 hbk).1
          exact m.upd hb hL ⟨es', by simp [hlt], hk1, hk2, hk3⟩ ⟨rfl, rfl, rfl⟩ (by simp) (fun r hr => by simp [Array.getElem?_setIfInBounds_ne (Ne.symm hr)])
      split at hm
      · rename_i j a hf
        split at hm
        · rename_i b hbj
          obtain ⟨rfl, rfl, rfl⟩ := ok_inj hm
          intro σ w ρ oe m
          obtain ⟨L, hL, hmp⟩ := (oe mp _ h1).map_inv
          obtain ⟨L', hL', es, hbk, h4, h5, h5b⟩ := m.blk id _ hb
          rw [hL] at hL'; injection hL' with hL'; subst hL'
          obtain ⟨r', h6, h7⟩ := findL_ok hu hd hkt l es.toList 0 hf h4 h5
          cases r' with
          | none => exact h7.elim
          | some p =>
            obtain ⟨j', u⟩ := p
            obtain ⟨rfl, _, hjl, hv, en, hen, hkey⟩ := h7
            rw [Nat.sub_zero] at hen hjl
            have hkv := (oe k _ h2).scal_inv hsc
            have hfk := run_findKey (P := P) hd h6 w
            have hena : es[j]? = some en := by simpa using hen
            have hold : ((es[j]?).map (·.key)).getD kv = kv := by rw [hena]; exact hkey
            have hborn : (((es[j]?).map fun x => (x.born : Int)).getD 0) = (b : Int) := by
              rw [hena]
              rw [← h5b, List.getElem?_map, hen] at hbj
              have : en.born = b := by simpa using hbj
              simp [this]
            have hsame : (es.modify j fun e => { e with key := kv }) = es := by
              apply Array.ext'
              rw [Array.toList_modify]
              apply List.ext_getElem?
              intro i
              rw [List.getElem?_modify]
              by_cases hij : j = i
              · subst hij
                rw [hen]
                simp only [if_true, Option.map_eq_map, Option.map_some]
                rw [← hkey]
              · simp [hij]
            refine fin σ w ρ L es es clock bs l a u b m hL hbk hv ?_ hmp hkv h4 h5 h5b
            unfold Instr.mapEntry
            simp only [Sem.run_bind, run_underlying hu, Result.andThen_ok, run_getMap hbk, hck, hfk, hold, hborn, Instr.keyThatStays, keyTy_bits 10000 hkt, if_true, Sem.run_pure, hsame]
            unfold setObj
            simp only [Sem.run, hbk, Result.andThen_ok]
        · cases hm
      · rename_i hf
        split at hm
        · rename_i z hz
          obtain ⟨rfl, rfl, rfl⟩ := ok_inj hm
          intro σ w ρ oe m
          obtain ⟨i, hi, hiz, hfl⟩ := zeroTy_info hz
          obtain ⟨L, hL, hmp⟩ := (oe mp _ h1).map_inv
          obtain ⟨L', hL', es, hbk, h4, h5, h5b⟩ := m.blk id _ hb
          rw [hL] at hL'; injection hL' with hL'; subst hL'
          obtain ⟨r', h6, h7⟩ := findL_ok hu hd hkt l es.toList 0 hf h4 h5
          cases r' with
          | some p => exact h7.elim
          | none =>
            have hkv := (oe k _ h2).scal_inv hsc
            refine fin σ w ρ L es (es.push { key := kv, val := z, born := clock }) (clock + 1) (bs ++ [clock]) (l ++ [(kv, z)]) z z clock m hL hbk (VR.of_flat hfl) ?_ hmp hkv ?_ ?_ ?_
            · have hfk := run_findKey (P := P) hd h6 w
              unfold Instr.mapEntry
              have hzr : (zeroValue el).run P w = .ok z w := by simp [zeroValue, typeInfo, hi, hiz]
              simp only [Sem.run_bind, run_underlying hu, Result.andThen_ok, run_getMap hbk, hck, hfk, hzr]
              unfold setObj
              simp only [Sem.run, hbk, Result.andThen_ok]
              rfl
            · rw [List.map_append, Array.toList_push, List.map_append]
              exact h4.append (by have := oe k _ h2; rw [hkv] at this; exact this)
            · rw [List.map_append, Array.toList_push, List.map_append]
              exact h5.append (VR.of_flat hfl)
            · rw [← h5b]; simp
        · cases hm
      · cases hm
    · cases hm
  · cases hm
theorem setV_fst : ∀ (l : List (Value × Value)) (i : Nat) (x : Value), (setV l i x).map (·.1) = l.map (·.1)
  | [], _, _ => rfl
  | p :: l, 0, x => rfl
  | p :: l, i + 1, x => by show p.1 :: (setV l i x).map (·.1) = p.1 :: l.map (·.1); rw [setV_fst l i x]
theorem setV_snd : ∀ (l : List (Value × Value)) (i : Nat) (x : Value), (setV l i x).map (·.2) = (l.map (·.2)).set i x
  | [], _, _ => rfl
  | p :: l, 0, x => rfl
  | p :: l, i + 1, x => by show p.2 :: (setV l i x).map (·.2) = p.2 :: (l.map (·.2)).set i x; rw [setV_snd l i x]
theorem idxB_ok {b : Nat} : ∀ {es : List MapEntry} {i j : Nat}, idxB b (es.map (·.born)) i = some j → ∃ j', j = i + j' ∧ es.findIdx? (fun e => (e.born : Int) == (b : Int)) = some j' ∧ j' < es.length
  | [], i, j, hf => by cases hf
  | en :: es, i, j, hf => by
    have hf : bo (Nat.beq en.born b) (some i) (idxB b (es.map (·.born)) (i + 1)) = some j := hf
    cases hc : Nat.beq en.born b with
    | true =>
      rw [hc, bo_true] at hf; injection hf with hf
      have := Nat.eq_of_beq_eq_true hc
      exact ⟨0, by omega, by simp [List.findIdx?_cons, this], by simp⟩
    | false =>
      rw [hc, bo_false] at hf
      obtain ⟨j', h1, h2, h3⟩ := idxB_ok hf
      have : ¬ (en.born : Int) = (b : Int) := fun hh => by
        have : en.born = b := by omega
        subst this; simp at hc
      exact ⟨j' + 1, by omega, by simp [List.findIdx?_cons, this, h2], by simp; omega⟩
theorem entryStore_good {t : TypeId} {mp s x : Operand} (ho : o.op = .entryStore t mp s x) (hm : mEntryStore h nx (evO G e mp) (evO G e s) (evO G e x) = .ok v h' nx') : Good P G o e h nx v h' nx' := by
  unfold mEntryStore at hm
  simp only [putS_eq, listS_eq] at hm
  split at hm
  · rename_i id ik b xv h1 h2 h3
    split at hm
    · rename_i cl bs l hb
      split at hm
      · rename_i i hi
        obtain ⟨rfl, rfl, rfl⟩ := ok_inj hm
        intro σ w ρ oe m
        obtain ⟨L, hL, hmp⟩ := (oe mp _ h1).map_inv
        obtain ⟨L', hL', es, hbk, h4, h5, h5b⟩ := m.blk id _ hb
        rw [hL] at hL'; injection hL' with hL'; subst hL'
        have hs := (oe s _ h2).scal_inv rfl
        subst h5b
        obtain ⟨j', hj, hfi, hjl⟩ := idxB_ok hi
        obtain rfl : i = j' := by omega
        have hfi' : es.findIdx? (fun e => (e.born : Int) == (b : Int)) = some i := by
          obtain ⟨el⟩ := es
          simpa using hfi
        have hrun : (Instr.entryStore t (.map (some L.blk)) (.int ik (.ofNat b)) (ρ x)).run P w = .ok () { w with heap := w.heap.setIfInBounds L.blk (.map (es.modify i fun e => { e with val := ρ x }) cl) } := by
          have e1 : (Int.ofNat b) = (b : Int) := rfl
          unfold Instr.entryStore
          simp only [Sem.run_bind, Sem.run_pure, Result.andThen_ok, run_getMap hbk, asInt, asIntOf, e1, hfi']
          unfold setObj
          simp only [Sem.run, hbk]
        refine ⟨undef, { w with heap := w.heap.setIfInBounds L.blk (.map (es.modify i fun e => { e with val := ρ x }) cl) }, .inr ⟨?_, rfl⟩, σ, VR.undef, ?_⟩
        · unfold execOp
          simp only [ho, hmp, hs, Sem.run_bind, hrun, Result.andThen_ok]
          rfl
        · rw [Tb.put_fun]
          have hlt : L.blk < w.heap.size := (Array.getElem?_eq_some_iff.1 hbk).1
          have ek : ((es.modify i fun e => { e with val := ρ x }).toList.map (·.key)) = es.toList.map (·.key) := by
            apply List.ext_getElem?
            intro i'
            rw [Array.toList_modify, List.getElem?_map, List.getElem?_modify, List.getElem?_map]
            by_cases hij : i = i'
            · subst hij; cases es.toList[i]? <;> simp
            · simp [hij]
          have ev : ((es.modify i fun e => { e with val := ρ x }).toList.map (·.val)) = (es.toList.map (·.val)).set i (ρ x) := by
            apply List.ext_getElem?
            intro i'
            rw [Array.toList_modify, List.getElem?_map, List.getElem?_modify, List.getElem?_set, List.getElem?_map]
            by_cases hij : i = i'
            · subst hij
              rw [List.getElem?_eq_getElem hjl]
              simp
              simpa using hjl
            · simp [hij]
          have eb : ((es.modify i fun e => { e with val := ρ x }).toList.map (·.born)) = es.toList.map (·.born) := by
            apply List.ext_getElem?
            intro i'
            rw [Array.toList_modify, List.getElem?_map, List.getElem?_modify, List.getElem?_map]
            by_cases hij : i = i'
            · subst hij; cases es.toList[i]? <;> simp
            · simp [hij]
          refine m.upd hb hL ⟨es.modify i fun e => { e with val := ρ x }, by simp [hlt], ?_, ?_, eb⟩ ⟨rfl, rfl, rfl⟩ (by simp) (fun r hr => by simp [Array.getElem?_setIfInBounds_ne (Ne.symm hr)])
          · rw [setV_fst, ek]; exact h4
          · rw [setV_snd, ev]; exact h5.set i (oe x _ h3)
      · cases hm
    · cases hm
  · cases hm
end
end Go.Proofs.YthdlljlcffokbaaDoor
namespace Go.Proofs.YthdlljlcffokbaaDoor
open Go.RowKit

/-- The slots stand for the model's. -/
structure ER (σ : Sg) (n : Nat) (e : Tb Value) (a : Act) : Prop where
  size : a.tmps.size = n
  get : ∀ k v, e.get k = some v → ∃ u, a.tmps[k]? = some u ∧ VR σ v u
/-- A call of the machine stands for a call of the model. -/
def CallOk (P : Program) (G : Nat) (call : CallF) : Prop := ∀ f args h nx v h' nx', call f args h nx = .ok v h' nx' →
  ∀ σ w us, VRs σ args us → MR G σ h.get nx w → Calls P f ⟨us⟩ w fun x w' => ∃ σ' u, x = .returned u ∧ VR σ' v u ∧ Tr G σ h.get nx w σ' h'.get nx' w'
/-- The fence of a frame: of a function, or of a round. -/
def rF : Option Nat → Fence
  | none => Fence.wide
  | some l => Fence.wide.inRound l
theorem rF_fn (rd : Option Nat) (f : FuncId) : (rF rd).fn f := by cases rd <;> trivial
theorem rF_depth (rd : Option Nat) : (rF rd).depth = none := by cases rd <;> rfl
theorem rF_round (rd : Option Nat) : (rF rd).round = rd := by cases rd <;> rfl
/-- A round of the machine stands for a round of the model. -/
def RndOk (P : Program) (G : Nat) (call : CallF) : Prop := ∀ l args h nx v h' nx', call (P.funcs.size + l) args h nx = .ok v h' nx' →
  ∀ σ w us, VRs σ args us → MR G σ h.get nx w → ∃ (L : Loc) (r : Loop), σ l = some L ∧ w.heap[L.blk]? = some (.loop r) ∧ us.length = r.params.size ∧
    RoundIn Fence.wide 2 P L.blk r.fn ((r.params.zip (⟨us⟩ : Array Value)).foldl (fun tmps (t, a) => tmps.setIfInBounds t a) r.tmps) r.assign r.body w (fun x w' => ∃ σ' u, x = .returned u ∧ VR σ' v u ∧ Tr G σ h.get nx w σ' h'.get nx' w')
/-- Calls of the machine, functions and rounds. -/
structure CallsOk (P : Program) (G : Nat) (call : CallF) : Prop where
  fn : ∀ f args h nx v h' nx', f < P.funcs.size → call f args h nx = .ok v h' nx' → ∀ σ w us, VRs σ args us → MR G σ h.get nx w → Calls P f ⟨us⟩ w fun x w' => ∃ σ' u, x = .returned u ∧ VR σ' v u ∧ Tr G σ h.get nx w σ' h'.get nx' w'
  rnd : RndOk P G call
/-- The marks of the ranges over functions that a frame has begun: blocks that no number bears. -/
def Mk (b0 : Nat) (σ : Sg) (h : Hf) (w : World) (ds : List Deferred) : Prop :=
  ∃ bs : List Nat, ds = bs.map (fun b => { target := .collected b, args := #[] }) ∧ bs.Nodup ∧ ∀ b ∈ bs, b0 ≤ b ∧ b < w.heap.size ∧ w.heap[b]? = some (.deferred (some [])) ∧ ∀ id L, (h id).isSome = true → σ id = some L → L.blk ≠ b
theorem Mk.nil {b0 : Nat} {σ : Sg} {h : Hf} {w : World} : Mk b0 σ h w [] := ⟨[], rfl, List.nodup_nil, fun _ hb => by cases hb⟩
theorem Mk.tr {G b0 nx nx' : Nat} {σ σ' : Sg} {h h' : Hf} {w w' : World} {ds : List Deferred} (mk : Mk b0 σ h w ds) (t : Tr G σ h nx w σ' h' nx' w') : Mk b0 σ' h' w' ds := by
  obtain ⟨bs, h1, h2, h3⟩ := mk
  refine ⟨bs, h1, h2, fun b hb => ?_⟩
  obtain ⟨h4, h5, h6, h7⟩ := h3 b hb
  refine ⟨h4, Nat.lt_of_lt_of_le h5 t.size, (t.fr b h5 h7).trans h6, fun id L hi hs he => ?_⟩
  rcases t.src id L hi hs with h8 | ⟨id0, L0, h8, h9, h10⟩
  · omega
  · exact h7 id0 L0 h8 h9 (h10.trans he)
/-- What must hold behind a statement. -/
def Post (G : Nat) (n b0 : Nat) (σ : Sg) (h : Hp) (nx : Nat) (w : World) (Q : Exit → Act → World → Prop) : Out → Prop
  | .bad => False
  | .nrm e' h' nx' => ∀ σ' w' a', Tr G σ h.get nx w σ' h'.get nx' w' → ER σ' n e' a' → Mk b0 σ' h'.get w' a'.defers → Q .normal a' w'
  | .ext id e' h' nx' => ∀ σ' w' a', Tr G σ h.get nx w σ' h'.get nx' w' → ER σ' n e' a' → Mk b0 σ' h'.get w' a'.defers → Q (.exit id) a' w'
  | .ret e' h' nx' => ∀ σ' w' a', Tr G σ h.get nx w σ' h'.get nx' w' → ER σ' n e' a' → Mk b0 σ' h'.get w' a'.defers → Q .ret a' w'
section
variable {P : Program} {G n b0 : Nat} {rd : Option Nat} {σ : Sg} {e e' : Tb Value} {h h' : Hp} {nx nx' : Nat} {w w' : World} {a : Act} {Q : Exit → Act → World → Prop} {call : CallF} {v u : Value}
theorem ER.mono {σ' : Sg} (er : ER σ n e a) (hs : σ.le σ') : ER σ' n e a := ⟨er.size, fun k v hk => let ⟨u, hu, hr⟩ := er.get k v hk; ⟨u, hu, hr.mono hs⟩⟩
theorem ER.oe (er : ER σ n e a) (m : MR G σ h.get nx w) : OE σ G e a.eval := by
  intro x v hx
  cases x with
  | tmp t =>
    obtain ⟨u, hu, hr⟩ := er.get t v hx
    have : a.eval (.tmp t) = u := by simp [Act.eval, hu]
    rw [this]; exact hr
  | const c =>
    obtain ⟨hf, hx⟩ := bo_inv (show bo (flat c) (some c) none = some v from hx) (by simp)
    injection hx with hx; subst hx
    exact VR.of_flat hf
  | global g =>
    obtain ⟨hg, hx⟩ := bo_inv (show bo (Nat.blt g G) (some (Value.pointer (some ⟨g, 0, none⟩))) none = some v from hx) (by simp)
    injection hx with hx; subst hx
    obtain ⟨k, hk⟩ := m.glob g (blt_lt hg)
    exact .ptr (L := ⟨g, 0, k⟩) hk .nil
  | func f =>
    injection (show some (Value.func (.func f) ⟨[]⟩ ⟨[]⟩) = some v from hx) with hx; subst hx
    exact .func f .nil .nil .nil
theorem mPut_some (n : Nat) (e : Tb Value) (d : Nat) (v : Value) : mPut n e (some d) v = bo (Nat.blt d n) (some (e.put d v)) none := by
  show bo (Nat.blt d n) (valR v (fun v => putS e d v some)) none = _
  rw [valR_eq, putS_eq]
theorem ER.put (er : ER σ n e a) {d : Option Tmp} (hp : mPut n e d v = some e') (hv : VR σ v u) : ER σ n e' (a.put d u) := by
  cases d with
  | none => injection hp with hp; subst hp; exact er
  | some d =>
    rw [mPut_some] at hp
    obtain ⟨hd, hp⟩ := bo_inv hp (by simp)
    injection hp with hp; subst hp
    have hd := blt_lt hd
    refine ⟨by simp [Act.put, er.size], fun k x hk => ?_⟩
    rw [Tb.get_put] at hk
    simp only [Act.put]
    by_cases hkd : k = d
    · subst hkd
      rw [if_pos rfl] at hk; injection hk with hk; subst hk
      exact ⟨u, by rw [Array.getElem?_setIfInBounds_self_of_lt (by rw [er.size]; exact hd)], hv⟩
    · rw [if_neg hkd] at hk
      rw [Array.getElem?_setIfInBounds_ne (Ne.symm hkd)]
      exact er.get k x hk
theorem guard_ok {ops : Array Oper} {o : Oper} {g : Nat × Bool} {b : Bool} (er : ER σ n e a) (hg : o.guard = some g) (hb : mGuard ops e g = some b) : Region.wanted o (yielded ops a.tmps) = b := by
  unfold mGuard at hb
  split at hb
  · rename_i d hd
    split at hb
    · rename_i c hc
      injection hb with hb; subst hb
      obtain ⟨u, hu, hr⟩ := er.get d _ hc
      have := hr.scal_inv rfl
      subst this
      obtain ⟨j, want⟩ := g
      simp only at hd
      simp [Region.wanted, hg, yielded, hd, hu]
    · rename_i hc
      injection hb with hb; subst hb
      obtain ⟨u, hu, hr⟩ := er.get d _ hc
      obtain ⟨ys, rfl, hys⟩ := hr.tuple_inv
      obtain ⟨j, want⟩ := g
      simp only at hd
      simp [Region.wanted, hg, yielded, hd, hu]
    · cases hb
  · cases hb
theorem put_defers (a : Act) (d : Option Tmp) (v : Value) : (a.put d v).defers = a.defers := by cases d <;> rfl
theorem Good.wpIn {o : Oper} {K : Act → World → Prop} (hnd : ∀ c, o.op ≠ .defer c) (hg : Good P G o e h nx v h' nx') (er : ER σ n e a) (m : MR G σ h.get nx w) (k : ∀ σ' u w', VR σ' v u → Tr G σ h.get nx w σ' h'.get nx' w' → K (a.put o.dst u) w') : o.wpIn (rF rd) 2 P a w K Q := by
  refine ⟨fun f _ => rF_fn rd f, ?_⟩
  rw [Oper.semAt_eq _ _ _ hnd]
  obtain ⟨u, w', hr | ⟨hr, rfl⟩, σ', hv, ht⟩ := hg σ w a.eval (er.oe m) m
  · rw [hr]; exact k σ' u w' hv ht
  · rw [hr]; exact k σ' _ w' hv ht
theorem callB_ok {f : FuncId} (hb : callB P f = true) (ar : Array Value) (w : World) : (callFunc f ar).run P w = .ok (.enter f ar) w := by
  unfold callB at hb
  split at hb
  · rename_i fn hf
    simp only [Bool.and_eq_true, Bool.not_eq_true'] at hb
    have h1 : fn.name ≠ "runtime.NumGoroutine" := fun hh => by rw [hh] at hb; simp at hb
    have h2 : fn.body ≠ none := fun hh => by rw [hh] at hb; simp at hb
    unfold callFunc
    simp [hf, h1, h2]
  · cases hb
theorem callB_lt {f : FuncId} (hb : callB P f = true) : f < P.funcs.size := by
  unfold callB at hb
  split at hb
  · rename_i fn hf; exact (Array.getElem?_eq_some_iff.1 hf).1
  · cases hb
theorem calls_rF {f : FuncId} {args : Array Value} {R : Ending → World → Prop} (h : Calls P f args w R) (k : Nat) : CallsIn (rF rd) k P f args w R := by
  cases rd with
  | none => exact callsIn_wide.2 h
  | some l => exact CallsIn.inRound l (callsIn_wide.2 h)
theorem round_rF {l : Nat} {f : FuncId} {tmps : Array Value} {asg body : Code} {R : Ending → World → Prop} (h : RoundIn Fence.wide 2 P l f tmps asg body w R) (k : Nat) : RoundIn (rF rd) k P l f tmps asg body w R := by
  refine ⟨rF_fn rd f, fun c cs _ => ?_⟩
  have := h.2 c cs (room_wide _)
  cases rd <;> exact this
theorem call_wp {o : Oper} {c : Call} {f : Operand} {K : Act → World → Prop} (hc : CallsOk P G call) (ho : o.op = .call c) (hcal : c.callee = .value f) (hm : mCall P call h nx (evO G e f) (evL G e c.args.toList) = .ok v h' nx') (er : ER σ n e a) (m : MR G σ h.get nx w)
    (k : ∀ σ' u w', VR σ' v u → Tr G σ h.get nx w σ' h'.get nx' w' → K (a.put o.dst u) w') : o.wpIn (rF rd) 2 P a w K Q := by
  refine ⟨fun f _ => rF_fn rd f, ?_⟩
  rw [Oper.semAt_eq _ _ _ (fun c hh => by rw [ho] at hh; cases hh)]
  unfold mCall at hm
  split at hm
  · rename_i fi xs cs vs h1 h2
    obtain ⟨hb, hm⟩ := bo_inv hm (by simp)
    have oe := er.oe m
    obtain ⟨ys, ys', hu, hx, hx'⟩ := (oe f _ h1).func_inv
    have hargs := oe.list h2
    have hcall := hc.fn fi _ h nx v h' nx' (callB_lt hb) hm σ w _ (hx.append (hargs.append hx')) m
    have hrun : (execOp a.eval o).run P w = .ok (.enter fi ⟨ys ++ (c.args.toList.map a.eval ++ ys')⟩) w := by
      have e1 : (⟨ys ++ (c.args.toList.map a.eval ++ ys')⟩ : Array Value) = ((⟨ys⟩ : Array Value) ++ c.args.map a.eval) ++ (⟨ys'⟩ : Array Value) := by
        apply Array.ext'; simp
      unfold execOp
      simp only [ho, resolve, hcal, hu, Deferred.ofValue, Sem.run_bind, Sem.run_pure, Result.andThen_ok, invoke, callB_ok hb, e1]
    rw [hrun]
    refine ⟨fun hd => by rw [rF_depth] at hd; (cases hd), (calls_rF hcall 1).mono fun x w' hR => ?_⟩
    obtain ⟨σ', u, rfl, hv, ht⟩ := hR
    exact k σ' u w' hv ht
  · rename_i l vs h1 h2
    rw [natS_eq] at hm
    have oe := er.oe m
    obtain ⟨L0, hL0, hu⟩ := (oe f _ h1).yld_inv
    obtain ⟨L, r, hL, hh, hlen, hround⟩ := hc.rnd l _ h nx v h' nx' hm σ w _ (oe.list h2) m
    rw [hL0] at hL; injection hL with hL; subst hL
    have hrun : (execOp a.eval o).run P w = (Instr.yield L0.blk ((⟨[]⟩ : Array Value) ++ c.args.map a.eval)).run P w := by
      unfold execOp
      simp only [ho, resolve, hcal, hu, Deferred.ofValue, Sem.run_bind, Sem.run_pure, Result.andThen_ok, invoke]
    have e1 : ((⟨[]⟩ : Array Value) ++ c.args.map a.eval) = ⟨c.args.toList.map a.eval⟩ := by
      apply Array.ext'; simp
    rw [hrun, e1, run_yield (P := P) hh (by simpa using hlen)]
    refine ⟨fun hd => by rw [rF_depth] at hd; (cases hd), (round_rF hround 1).mono fun x w' hR => ?_⟩
    obtain ⟨σ', u, rfl, hv, ht⟩ := hR
    exact k σ' u w' hv ht
  · cases hm
theorem builtin_good {o : Oper} {c : Call} {b : Builtin} (ho : o.op = .call c) (hcal : c.callee = .builtin b) (hm : mBuiltin P G e h nx o b c.args.toList c.argTypes.toList = .ok v h' nx') : Good P G o e h nx v h' nx' := by
  have hsel : ∀ cs b, o.op ≠ .select cs b := fun cs b hh => by rw [ho] at hh; cases hh
  obtain ⟨callee, args, argTypes⟩ := c
  simp only at hcal hm
  subst hcal
  unfold mBuiltin at hm
  split at hm
  · rename_i x t h1 h2
    obtain rfl := arr1 h1; obtain rfl := arr1 h2
    exact len_good ho hm
  · rename_i s x t u h1 h2
    obtain rfl := arr2 h1; obtain rfl := arr2 h2
    split at hm
    · rename_i el hu; exact app_good ho (.inl ⟨el, hu⟩) hm
    · rename_i hu; exact app_good ho (.inr hu) hm
    · cases hm
  · rename_i d x t u h1 h2
    obtain rfl := arr2 h1; obtain rfl := arr2 h2
    exact copy_good ho hm
  · rename_i x t h1 h2
    obtain rfl := arr1 h1; obtain rfl := arr1 h2
    exact clear_good ho hm
  · exact flat_good hsel hm
  · exact flat_good hsel hm
  · cases hm
theorem mOp_wp {o : Oper} {K : Act → World → Prop} (hc : CallsOk P G call) (hm : mOp P G call e h nx o = .ok v h' nx') (er : ER σ n e a) (m : MR G σ h.get nx w)
    (k : ∀ σ' u w', VR σ' v u → Tr G σ h.get nx w σ' h'.get nx' w' → K (a.put o.dst u) w') : o.wpIn (rF rd) 2 P a w K Q := by
  rw [mOp_eq] at hm
  unfold sOp at hm
  cases ho : o.op <;> rw [ho] at hm
  case move => exact (move_good (.inl ho) hm).wpIn (fun c hh => by rw [ho] at hh; cases hh) er m k
  case assign => exact (move_good (.inr ho) hm).wpIn (fun c hh => by rw [ho] at hh; cases hh) er m k
  case pick => exact (pick_good ho hm).wpIn (fun c hh => by rw [ho] at hh; cases hh) er m k
  case alloc => exact (alloc_good ho hm).wpIn (fun c hh => by rw [ho] at hh; cases hh) er m k
  case box => exact (box_good ho hm).wpIn (fun c hh => by rw [ho] at hh; cases hh) er m k
  case build => exact (build_good ho hm).wpIn (fun c hh => by rw [ho] at hh; cases hh) er m k
  case buildSlice => exact (buildSlice_good ho hm).wpIn (fun c hh => by rw [ho] at hh; cases hh) er m k
  case insert => exact (update_good (.inr ho) hm).wpIn (fun c hh => by rw [ho] at hh; cases hh) er m k
  case load => exact (load_good ho hm).wpIn (fun c hh => by rw [ho] at hh; cases hh) er m k
  case store => exact (store_good ho hm).wpIn (fun c hh => by rw [ho] at hh; cases hh) er m k
  case nilCheck => exact (nil_good ho hm).wpIn (fun c hh => by rw [ho] at hh; cases hh) er m k
  case binOp => exact (bin_good ho hm).wpIn (fun c hh => by rw [ho] at hh; cases hh) er m k
  case unOp => exact (flat_good (fun cs b hh => by rw [ho] at hh; cases hh) hm).wpIn (fun c hh => by rw [ho] at hh; cases hh) er m k
  case convert => exact (conv_good ho hm).wpIn (fun c hh => by rw [ho] at hh; cases hh) er m k
  case sliceToArrayPointer => exact (arr_good ho hm).wpIn (fun c hh => by rw [ho] at hh; cases hh) er m k
  case makeInterface => exact (iface_good ho hm).wpIn (fun c hh => by rw [ho] at hh; cases hh) er m k
  case makeFunc => exact (func_good ho hm).wpIn (fun c hh => by rw [ho] at hh; cases hh) er m k
  case makeMap => exact (makeMap_good ho hm).wpIn (fun c hh => by rw [ho] at hh; cases hh) er m k
  case makeSlice => exact (makeSlice_good ho hm).wpIn (fun c hh => by rw [ho] at hh; cases hh) er m k
  case slice => exact (slice_good ho hm).wpIn (fun c hh => by rw [ho] at hh; cases hh) er m k
  case fieldAddr => exact (fieldAddr_good ho hm).wpIn (fun c hh => by rw [ho] at hh; cases hh) er m k
  case field => exact (field_good ho hm).wpIn (fun c hh => by rw [ho] at hh; cases hh) er m k
  case indexAddr => exact (indexAddr_good ho hm).wpIn (fun c hh => by rw [ho] at hh; cases hh) er m k
  case index => exact (index_good ho hm).wpIn (fun c hh => by rw [ho] at hh; cases hh) er m k
  case lookup => exact (lookup_good ho hm).wpIn (fun c hh => by rw [ho] at hh; cases hh) er m k
  case mapUpdate => exact (update_good (.inl ho) hm).wpIn (fun c hh => by rw [ho] at hh; cases hh) er m k
  case range => exact (range_good ho hm).wpIn (fun c hh => by rw [ho] at hh; cases hh) er m k
  case next => exact (next_good ho hm).wpIn (fun c hh => by rw [ho] at hh; cases hh) er m k
  case mapEntry => exact (mapEntry_good ho hm).wpIn (fun c hh => by rw [ho] at hh; cases hh) er m k
  case entryStore => exact (entryStore_good ho hm).wpIn (fun c hh => by rw [ho] at hh; cases hh) er m k
  case entry => exact (entry_good ho hm).wpIn (fun c hh => by rw [ho] at hh; cases hh) er m k
  case extract => exact (extract_good ho hm).wpIn (fun c hh => by rw [ho] at hh; cases hh) er m k
  case call c =>
    have hm : (match c.callee with
      | .value f => mCall P call h nx (evO G e f) (evL G e c.args.toList)
      | .builtin b => mBuiltin P G e h nx o b c.args.toList c.argTypes.toList
      | _ => .bad) = .ok v h' nx' := hm
    split at hm
    · rename_i f hcal; exact call_wp hc ho hcal hm er m k
    · rename_i b hcal; exact (builtin_good ho hcal hm).wpIn (fun c hh => by rw [ho] at hh; cases hh) er m k
    · cases hm
  all_goals cases hm
theorem mStep_ok {o : Oper} {K : Act → World → Prop} {kf : ContF} {r : Out} (hc : CallsOk P G call) (hm : mStep P G n call o e h nx kf = r) (hr : r ≠ .bad) (er : ER σ n e a) (m : MR G σ h.get nx w)
    (k : ∀ σ' a' w' e' h' nx', kf e' h' nx' = r → Tr G σ h.get nx w σ' h'.get nx' w' → ER σ' n e' a' → a'.defers = a.defers → K a' w') : o.wpIn (rF rd) 2 P a w K Q := by
  unfold mStep at hm
  cases ho : mOp P G call e h nx o with
  | bad => rw [ho] at hm; exact absurd hm.symm hr
  | ok v h' nx' =>
    rw [ho] at hm
    obtain ⟨e', hp, hm⟩ := oo_inv (show oo (mPut n e o.dst v) .bad (fun e' => kf e' h' nx') = r from hm) (fun hh => hr hh.symm)
    exact mOp_wp hc ho er m fun σ' u w' hv ht => k σ' _ w' e' h' nx' hm ht ((er.mono ht.ext).put hp hv) (put_defers _ _ _)
theorem Post.shift {σ' : Sg} {r : Out} (hp : Post G n b0 σ h nx w Q r) (ht : Tr G σ h.get nx w σ' h'.get nx' w') : Post G n b0 σ' h' nx' w' Q r := by
  cases r with
  | bad => exact hp
  | nrm e1 h1 n1 => exact fun σ1 w1 a1 t1 r1 => hp σ1 w1 a1 (ht.trans t1) r1
  | ext id e1 h1 n1 => exact fun σ1 w1 a1 t1 r1 => hp σ1 w1 a1 (ht.trans t1) r1
  | ret e1 h1 n1 => exact fun σ1 w1 a1 t1 r1 => hp σ1 w1 a1 (ht.trans t1) r1
theorem mOps_ok {ops : Array Oper} (hc : CallsOk P G call) : ∀ (l : List Oper) {e : Tb Value} {h : Hp} {nx : Nat} {σ : Sg} {a : Act} {w : World} {r : Out}, mOps P G n call ops l e h nx = r → ER σ n e a → MR G σ h.get nx w → Mk b0 σ h.get w a.defers → Post G n b0 σ h nx w Q r → wpListIn (rF rd) 2 P ops Q l a w
  | [], e, h, nx, σ, a, w, r, hm, er, m, mk, hp => by
    subst hm
    exact wpListIn_nil (hp σ w a (Tr.refl m) er mk)
  | o :: l, e, h, nx, σ, a, w, r, hm, er, m, mk, hp => by
    have hr : r ≠ .bad := fun hh => by rw [hh] at hp; exact hp
    have hm : oo o.guard (mStep P G n call o e h nx (mOps P G n call ops l)) (fun g => oo (mGuard ops e g) .bad (fun b => bo b (mStep P G n call o e h nx (mOps P G n call ops l)) (mSkip n o e h nx (mOps P G n call ops l)))) = r := hm
    have run : Region.wanted o (yielded ops a.tmps) = true → mStep P G n call o e h nx (mOps P G n call ops l) = r → wpListIn (rF rd) 2 P ops Q (o :: l) a w := fun hw hs => by
      unfold wpListIn
      rw [if_pos hw]
      refine mStep_ok hc hs hr er m fun σ' a' w' e' h' nx' h1 h2 h3 h4 => ?_
      exact mOps_ok hc l h1 h3 h2.mr (by rw [h4]; exact mk.tr h2) (hp.shift h2)
    cases hg : o.guard with
    | none =>
      rw [hg, oo_none] at hm
      exact run (by simp [Region.wanted, hg]) hm
    | some g =>
      rw [hg, oo_some] at hm
      obtain ⟨b, hb, hm⟩ := oo_inv hm (fun hh => hr hh.symm)
      have hw := guard_ok (ops := ops) er hg hb
      cases b with
      | true => exact run hw hm
      | false =>
        rw [bo_false] at hm
        obtain ⟨e', hpt, hm⟩ := oo_inv (show oo (mPut n e o.dst undef) .bad (fun e' => mOps P G n call ops l e' h nx) = r from hm) (fun hh => hr hh.symm)
        unfold wpListIn
        rw [if_neg (by simp [hw])]
        exact ⟨fun f _ => rF_fn rd f, mOps_ok hc l hm (er.put hpt VR.undef) m (by rw [put_defers]; exact mk) hp⟩
/-- This way of the machine stands for this statement. -/
def CodeOk (P : Program) (G n : Nat) (rd : Option Nat) (f : ContF) (c : Code) : Prop := ∀ e h nx σ a w Q b0, ER σ n e a → MR G σ h.get nx w → Mk b0 σ h.get w a.defers → b0 ≤ w.heap.size → Post G n b0 σ h nx w Q (f e h nx) → c.wpIn (rF rd) 2 P Q a w
def RegOk (P : Program) (G n : Nat) (dr : RegF) : Prop := ∀ rd id ops, CodeOk P G n rd (dr ops) (.region id ops true)
theorem seqm_ok {f g : ContF} {x y : Code} (hx : CodeOk P G n rd f x) (hy : CodeOk P G n rd g y) : CodeOk P G n rd (cSeq f g) (.seq x y) := fun e h nx σ a w Q b0 er m mk hb hp => by
  refine wpIn_seq (hx e h nx σ a w _ b0 er m mk hb ?_)
  have hp : Post G n b0 σ h nx w Q (@Out.rec (fun _ => Out) .bad g .ext .ret (f e h nx)) := hp
  cases hf : f e h nx with
  | bad => rw [hf] at hp; exact hp
  | nrm e1 h1 n1 => rw [hf] at hp; exact fun σ1 w1 a1 t1 r1 mk1 => hy e1 h1 n1 σ1 a1 w1 Q b0 r1 t1.mr mk1 (Nat.le_trans hb t1.size) (hp.shift t1)
  | ext id e1 h1 n1 => rw [hf] at hp; exact hp
  | ret e1 h1 n1 => rw [hf] at hp; exact hp
theorem cond_ok {f g : ContF} {x : Operand} {y z : Code} (hy : CodeOk P G n rd f y) (hz : CodeOk P G n rd g z) : CodeOk P G n rd (cCond G x f g) (.cond x y z) := fun e h nx σ a w Q b0 er m mk hb hp => by
  unfold cCond at hp
  split at hp
  · rename_i t ht
    have hx := (er.oe m x _ ht).scal_inv rfl
    cases t with
    | true => exact wpIn_cond_true hx (hy e h nx σ a w Q b0 er m mk hb hp)
    | false => exact wpIn_cond_false hx (hz e h nx σ a w Q b0 er m mk hb hp)
  · exact hp.elim
theorem block_ok {f : ContF} {id : Nat} {c : Code} (hc : CodeOk P G n rd f c) : CodeOk P G n rd (cBlock id f) (.block id c) := fun e h nx σ a w Q b0 er m mk hb hp => by
  refine wpIn_block (hc e h nx σ a w _ b0 er m mk hb ?_)
  have hp : Post G n b0 σ h nx w Q (@Out.rec (fun _ => Out) .bad .nrm (fun id' e' h' nx' => bo (Nat.beq id' id) (.nrm e' h' nx') (.ext id' e' h' nx')) .ret (f e h nx)) := hp
  cases hf : f e h nx with
  | bad => rw [hf] at hp; exact hp
  | nrm e1 h1 n1 => rw [hf] at hp; exact hp
  | ret e1 h1 n1 => rw [hf] at hp; exact hp
  | ext id' e1 h1 n1 =>
    rw [hf] at hp
    intro σ1 w1 a1 t1 r1 mk1
    simp only [Exit.inBlock]
    cases hb : Nat.beq id' id with
    | true =>
      have := Nat.eq_of_beq_eq_true hb; subst this
      have hp : Post G n b0 σ h nx w Q (bo (Nat.beq id' id') (.nrm e1 h1 n1) (.ext id' e1 h1 n1)) := hp
      rw [hb] at hp
      rw [if_pos rfl]; exact hp σ1 w1 a1 t1 r1 mk1
    | false =>
      have hne : id' ≠ id := fun e => by subst e; simp at hb
      have hp : Post G n b0 σ h nx w Q (bo (Nat.beq id' id) (.nrm e1 h1 n1) (.ext id' e1 h1 n1)) := hp
      rw [hb] at hp
      rw [if_neg hne]; exact hp σ1 w1 a1 t1 r1 mk1
theorem loop_ok {f : ContF} {c : Code} (hc : CodeOk P G n rd f c) (fuel : Nat) : CodeOk P G n rd (mLoop f fuel) (.loop c) := fun e h nx σ a w Q b0 er m mk hb hp => by
  refine wpIn_loop_rounds fuel ?_
  induction fuel generalizing e h nx σ a w with
  | zero => exact hp.elim
  | succ k ih =>
    rw [roundsIn_succ]
    refine hc e h nx σ a w _ b0 er m mk hb ?_
    have hp : Post G n b0 σ h nx w Q (@Out.rec (fun _ => Out) .bad (mLoop f k) .ext .ret (f e h nx)) := hp
    cases hf : f e h nx with
    | bad => rw [hf] at hp; exact hp
    | nrm e1 h1 n1 => rw [hf] at hp; exact fun σ1 w1 a1 t1 r1 mk1 => ih e1 h1 n1 σ1 a1 w1 r1 t1.mr mk1 (Nat.le_trans hb t1.size) (hp.shift t1)
    | ext id e1 h1 n1 => rw [hf] at hp; exact hp
    | ret e1 h1 n1 => rw [hf] at hp; exact hp
theorem stepR_scope {b : Frame} {k : List Item} {cs : List Frame} {c : Code} : step P (lone (b.atR a (.code (.scope c) :: k)) cs w) = .next (lone (b.atR a (.code c :: .inScope c :: k)) cs w) :=
  step_lone_go (by simp [stepG, stepG.exec, Frame.atR])
theorem stepR_inScope {b : Frame} {k : List Item} {cs : List Frame} {c : Code} : step P (lone (b.atR a (.inScope c :: k)) cs w) = .next (lone (b.atR a k) cs w) :=
  step_lone_go (by simp [stepG, stepG.exec, Frame.atR])
theorem wpIn_scope {F : Fence} {j : Nat} {c : Code} (h : c.wpIn F j P (Exit.noGoto Q) a w) : (Code.scope c).wpIn F j P Q a w := by
  intro b k cs hro hb hr
  have h0 : (lone (b.atR a (.code (.scope c) :: k)) cs w).fenced P F := fenced_calm hb hr rfl
  obtain ⟨e, a₁, w₁, hq, harr⟩ := h b (.inScope c :: k) cs hro hb hr
  cases e with
  | normal => exact ⟨.normal, a₁, w₁, hq, .head h0 stepR_scope (StepsIn.trans harr (.one (fenced_calm hb hr rfl) stepR_inScope))⟩
  | exit id' =>
    have hx : exitTo id' (.inScope c :: k) = exitTo id' k := by simp [exitTo]
    exact ⟨.exit id', a₁, w₁, hq, fun k' hk => .head h0 stepR_scope (harr.1 k' (by rw [hx]; exact hk)),
      fun hr' hk => let ⟨k₁, h1, h2⟩ := harr.2 hr' (by rw [hx]; exact hk); ⟨k₁, h1, .head h0 stepR_scope h2⟩⟩
  | goto l => exact hq.elim
  | ret => exact ⟨_, a₁, w₁, hq, .of_steps (.one h0 stepR_scope) harr⟩
  | panic ch => exact ⟨_, a₁, w₁, hq, .of_steps (.one h0 stepR_scope) harr⟩
  | outgrown => exact ⟨_, a₁, w₁, hq, .of_steps (.one h0 stepR_scope) harr⟩
theorem scope_ok {f : ContF} {c : Code} (hc : CodeOk P G n rd f c) : CodeOk P G n rd f (.scope c) := fun e h nx σ a w Q b0 er m mk hb hp => by
  refine wpIn_scope (hc e h nx σ a w _ b0 er m mk hb ?_)
  cases hf : f e h nx with
  | bad => rw [hf] at hp; exact hp
  | nrm e1 h1 n1 => rw [hf] at hp; exact hp
  | ret e1 h1 n1 => rw [hf] at hp; exact hp
  | ext id e1 h1 n1 => rw [hf] at hp; exact hp
theorem lpSt_busy {st : Nat} (h : Nat.beq st 1 = false) : lpSt st ≠ .busy := by
  match st, h with
  | 0, _ => intro hh; cases hh
  | 1, h => simp at h
  | 2, _ => intro hh; cases hh
  | st + 3, _ => intro hh; cases hh
/-- The record of a range over a function. -/
theorem MR.lp {h : Hf} (m : MR G σ h nx w) {id st k : Nat} {e : Tb Value} {ps : List Nat} {asg body : Code} {pend : Option (Option Nat)} (hb : h id = some (.loop st k e ps asg body pend)) :
    ∃ (L : Loc) (r : Loop), σ id = some L ∧ L.base = 0 ∧ w.heap[L.blk]? = some (.loop r) ∧ r.state = lpSt st ∧ r.tmps.size = k ∧ (∀ j v, e.get j = some v → ∃ u, r.tmps[j]? = some u ∧ VR σ v u) ∧ r.params.toList = ps ∧ r.assign = asg ∧ r.body = body ∧ r.pending = pend.map jumpC := by
  obtain ⟨L, hL, h0, r, h1⟩ := m.blk id _ hb
  exact ⟨L, r, hL, h0, h1⟩
/-- The record is turned. -/
theorem MR.lpSet {h : Hp} (m : MR G σ h.get nx w) {id st st' k : Nat} {e : Tb Value} {ps : List Nat} {asg body : Code} {pend pend' : Option (Option Nat)} (hb : h.get id = some (.loop st k e ps asg body pend)) {L : Loc} (hL : σ id = some L) (f : Loop → Loop)
    (hf : ∀ r : Loop, (f r).state = lpSt st' ∧ (f r).tmps = r.tmps ∧ (f r).params = r.params ∧ (f r).assign = r.assign ∧ (f r).body = r.body ∧ (r.pending = pend.map jumpC → (f r).pending = pend'.map jumpC)) {r : Loop} (hr : w.heap[L.blk]? = some (.loop r)) :
    Tr G σ h.get nx w σ (h.put id (.loop st' k e ps asg body pend')).get nx (w.putObj L.blk (.loop (f r))) := by
  obtain ⟨L', r', hL', h0, h1, h2, h3, h4, h5, h6, h7, h8⟩ := m.lp hb
  rw [hL] at hL'; injection hL' with hL'; subst hL'
  rw [hr] at h1; injection h1 with h1; injection h1 with h1; subst h1
  have hlt : L.blk < w.heap.size := (Array.getElem?_eq_some_iff.1 hr).1
  obtain ⟨f1, f2, f3, f4, f5, f6⟩ := hf r
  rw [Tb.put_fun]
  exact m.upd hb hL ⟨h0, f r, World.putObj_heap_same hlt, f1, by rw [f2]; exact h3, by rw [f2]; exact h4, by rw [f3]; exact h5, by rw [f4]; exact h6, by rw [f5]; exact h7, f6 h8⟩ ⟨rfl, rfl, rfl⟩ World.putObj_size (fun r hne => World.putObj_heap_other hne)
theorem alloc_old (w : World) (o : Obj) {r : Nat} (hr : r < w.heap.size) : (w.alloc o).heap[r]? = w.heap[r]? := by
  show (w.heap.push o)[r]? = _
  rw [Array.getElem?_push, if_neg (by omega)]
theorem rangeF_ok {g : Operand} {ps : Array Nat} {asg body : Code} (hc : CallsOk P G call) : CodeOk P G n none (mRangeF P G n call g ps asg body) (.rangeFunc g ps asg body) := fun e h nx σ a w Q b0 er m mk hb0 hp => by
  unfold mRangeF at hp
  split at hp
  · rename_i f xs cs hg
    cases hcb : callB P f with
    | false => rw [hcb] at hp; exact hp.elim
    | true =>
      rw [hcb, bo_true, putS_eq, natS_eq] at hp
      obtain ⟨ys, ys', hu, hx, hx'⟩ := (er.oe m g _ hg).func_inv
      refine wpIn_rangeFunc fun fn _ => ?_
      have t1 := m.adopt (w' := (w.alloc (.deferred (some []))).alloc (.loop { state := .ready, pending := none, fn := fn, tmps := a.tmps, params := ps, assign := asg, body := body, defers := w.heap.size }))
        ⟨w.heap.size + 1, 0, 0⟩ (.loop 0 n e ps.toList asg body none) (by simp) ⟨rfl, rfl, rfl⟩ (by simp; omega)
        (fun r hr => by rw [alloc_old _ _ (by rw [World.size_alloc]; omega), alloc_old _ _ hr])
        (fun σ' hs => ⟨rfl, _, by have := World.alloc_heap_new (w.alloc (.deferred (some []))) (.loop { state := .ready, pending := none, fn := fn, tmps := a.tmps, params := ps, assign := asg, body := body, defers := w.heap.size }); rw [World.size_alloc] at this; exact this, rfl, er.size, fun k v hk => let ⟨u, hu, hr⟩ := er.get k v hk; ⟨u, hu, hr.mono hs⟩, rfl, rfl, rfl, rfl⟩)
      generalize hw1 : (w.alloc (.deferred (some []))).alloc (.loop { state := .ready, pending := none, fn := fn, tmps := a.tmps, params := ps, assign := asg, body := body, defers := w.heap.size }) = w1 at t1
      have hd1 : w1.heap[w.heap.size]? = some (.deferred (some [])) := by rw [← hw1, alloc_old _ _ (by rw [World.size_alloc]; omega)]; exact World.alloc_heap_new _ _
      have hs1 : w1.heap.size = w.heap.size + 2 := by rw [← hw1]; simp
      generalize hσ1 : (fun i => if i = nx then some (⟨w.heap.size + 1, 0, 0⟩ : Loc) else σ i) = σ1 at t1
      have hL1 : σ1 nx = some ⟨w.heap.size + 1, 0, 0⟩ := by rw [← hσ1]; simp
      rw [← Tb.put_fun] at t1
      have mk1 : Mk b0 σ1 (h.put nx (.loop 0 n e ps.toList asg body none)).get w1 ({ target := .collected w.heap.size, args := #[] } :: a.defers) := by
        obtain ⟨bs, m1, m2, m3⟩ := mk.tr t1
        obtain ⟨bs0, m4, _, m5⟩ := mk
        refine ⟨w.heap.size :: bs, by rw [m1]; rfl, List.nodup_cons.2 ⟨fun hh => ?_, m2⟩, fun b hb => ?_⟩
        · have he : bs = bs0 := by
            have := m1.symm.trans m4
            exact (List.map_inj_right (fun x y hxy => by simpa using hxy)).1 this
          have := (m5 _ (he ▸ hh)).2.1
          omega
        · rcases List.mem_cons.1 hb with rfl | hb
          · refine ⟨hb0, by omega, hd1, fun id L hi hs he => ?_⟩
            rw [← hσ1] at hs
            by_cases e1 : id = nx
            · simp only [if_pos e1] at hs; injection hs with hs; subst hs; simp at he
            · simp only [if_neg e1] at hs
              rw [Tb.get_put, if_neg e1] at hi
              obtain ⟨B, hB⟩ := Option.isSome_iff_exists.1 hi
              obtain ⟨L', h1, h2⟩ := m.blk id B hB
              rw [hs] at h1; injection h1 with h1; subst h1
              have := h2.lt; omega
          · exact m3 b hb
      have hinv : (invoke (.fn (.func f) ⟨ys'⟩) (⟨ys⟩ ++ #[.func (.yield (w.heap.size + 1)) #[] #[]])).run P w1 = .ok (.enter f ⟨ys ++ ([.func (.yield (w.heap.size + 1)) ⟨[]⟩ ⟨[]⟩] ++ ys')⟩) w1 := by
        have e1 : (⟨ys ++ ([.func (.yield (w.heap.size + 1)) ⟨[]⟩ ⟨[]⟩] ++ ys')⟩ : Array Value) = ((⟨ys⟩ : Array Value) ++ #[.func (.yield (w.heap.size + 1)) #[] #[]]) ++ (⟨ys'⟩ : Array Value) := by
          apply Array.ext'; simp
        unfold invoke
        simp only [callB_ok hcb, e1]
      refine ⟨w.heap.size + 1, [{ target := .collected w.heap.size, args := #[] }], w1, { target := .fn (.func f) ⟨ys'⟩, args := ⟨ys⟩ ++ #[.func (.yield (w.heap.size + 1)) #[] #[]] }, w1, f, _, w1, by rw [rF_round, run_enterLoop_outer, hw1], ?_, fun f' _ => rF_fn _ f', hinv, fun hd => by rw [rF_depth] at hd; (cases hd), ?_⟩
      · simp only [resolve, hu, Deferred.ofValue, Sem.run_pure]; simp [Act.eval]
      cases hq : call f (xs ++ ([.func (.yield nx) ⟨[]⟩ ⟨[]⟩] ++ cs)) (h.put nx (.loop 0 n e ps.toList asg body none)) (nx + 1) with
      | bad => rw [hq] at hp; exact hp.elim
      | ok v h2 nx2 =>
        rw [hq] at hp
        have hcall := hc.fn f _ _ _ v h2 nx2 (callB_lt hcb) hq σ1 w1 _ ((hx.mono t1.ext).append (VRs.append (.yld hL1 .nil) (hx'.mono t1.ext))) t1.mr
        refine (calls_rF hcall 1).mono fun x w2 ⟨σ2, u, hx2, _, t2⟩ => ?_
        subst hx2
        simp only at hp
        split at hp
        · rename_i st n' e' ps' asg' body' pend hbl
          obtain ⟨L2, r, hL2, _, hr, hst, _, _, _, _, _, hpend⟩ := t2.mr.lp hbl
          have hLe : L2 = ⟨w.heap.size + 1, 0, 0⟩ := by
            have := t2.ext nx _ hL1
            rw [hL2] at this; injection this
          subst hLe
          cases hbz : Nat.beq st 1 with
          | true => rw [hbz] at hp; exact hp.elim
          | false =>
            rw [hbz, bo_false, putS_eq] at hp
            have t3 := t2.mr.lpSet (st' := 3) (pend' := pend) hbl hL2 (fun r => { r with state := .exhausted }) (fun r => ⟨rfl, rfl, rfl, rfl, rfl, fun h => h⟩) hr
            have tt := t1.trans (t2.trans t3)
            refine ⟨_, _, run_endLoop hr (by rw [hst]; exact lpSt_busy hbz), ?_⟩
            have er' : ER σ2 n e { a with defers := [{ target := .collected w.heap.size, args := #[] }] ++ a.defers } := ⟨er.size, (er.mono tt.ext).get⟩
            have mk' := (mk1.tr t2).tr t3
            dsimp only at tt mk' ⊢
            generalize w2.putObj (w.heap.size + 1) (.loop { r with state := .exhausted }) = w4 at tt mk' ⊢
            rw [hpend]
            cases pend with
            | none => exact hp σ2 _ _ tt er' mk'
            | some j =>
              cases j with
              | none => exact wpIn_ret (hp σ2 _ _ tt er' mk')
              | some id => exact wpIn_exit (hp σ2 _ _ tt er' mk')
        · exact hp.elim
  · exact hp.elim
theorem code_ok {dr : RegF} (rg : Bool) (hrg : rg = true → rd = none) (fuel : Nat) (hc : CallsOk P G call) (hd : RegOk P G n dr) : ∀ c, CodeOk P G n rd (mCode P G n fuel call dr rg c) c := by
  intro c
  induction c with
  | skip => exact fun e h nx σ a w Q b0 er m mk hb hp => wpIn_skip (hp σ w a (Tr.refl m) er mk)
  | region id ops draw =>
    cases draw with
    | true => exact hd rd id ops
    | false => exact fun e h nx σ a w Q b0 er m mk hb hp => wpIn_region_list (mOps_ok hc _ rfl er m mk hp)
  | seq x y hx hy => exact seqm_ok hx hy
  | cond x y z hy hz => exact cond_ok hy hz
  | block id c ih => exact block_ok ih
  | loop c ih => exact loop_ok ih fuel
  | rangeFunc g ps asg body _ _ =>
    cases rg with
    | true => rw [hrg rfl]; exact rangeF_ok hc
    | false => exact fun e h nx σ a w Q b0 er m mk hb hp => hp.elim
  | exit id => exact fun e h nx σ a w Q b0 er m mk hb hp => wpIn_exit (hp σ w a (Tr.refl m) er mk)
  | scope c ih => exact scope_ok ih
  | label l => exact fun e h nx σ a w Q b0 er m mk hb hp => wpIn_label (hp σ w a (Tr.refl m) er mk)
  | ret => exact fun e h nx σ a w Q b0 er m mk hb hp => wpIn_ret (hp σ w a (Tr.refl m) er mk)
  | _ => exact fun e h nx σ a w Q b0 er m mk hb hp => hp.elim
theorem loadVar_ok {t : TypeId} {y : Value} (hm : mLoad P h 0 t (some y) = .ok v h' nx') (hy : VR σ y u) (m : MR G σ h.get nx w) : ∃ ad x, u = .pointer (some ad) ∧ VR σ v x ∧ (loadVar t ad).run P w = .ok x w := by
  unfold mLoad at hm
  split at hm
  · rename_i id off h1
    injection h1 with h1; subst h1
    obtain ⟨L, hL, hu⟩ := hy.ptr_inv
    split at hm
    · rename_i el n k c hb
      split at hm
      · rename_i hr
        split at hm
        · rename_i v' hv
          obtain ⟨rfl, rfl, rfl⟩ := ok_inj hm
          obtain ⟨x, hc, hvu⟩ := m.cell hb hL hv
          refine ⟨_, x, hu, hvu, ?_⟩
          simp only [loadVar, Sem.run_bind, (run_isAgg hr w).1, Result.andThen_ok, Option.isSome_none, Bool.false_eq_true, if_false]
          simp [hc]
        · cases hm
      · rename_i j hr
        split at hm
        · rename_i l hl
          obtain ⟨rfl, rfl, rfl⟩ := ok_inj hm
          obtain ⟨us, h2, h3, h4⟩ := m.ldN hb hL j off hl
          obtain ⟨i, hi, hs⟩ := (run_isAgg hr w).2 j rfl
          have hcells := rangeAt_loadCells (P := P) h4
          rw [h3] at hcells
          refine ⟨_, .agg ⟨us⟩, hu, .agg h2 .nil, ?_⟩
          simp [loadVar, (run_isAgg hr w).1, sizeOf, typeInfo, hi, hs, hcells]
        · cases hm
      · cases hm
    · cases hm
  · cases hm
/-- One result. -/
def resVal (tmps : Array Value) : ResultVar → Sem Value
  | .tmp t => pure (tmps.getD t Go.undef)
  | .cell ad t => do loadVar t (← asAddr (tmps.getD ad Go.undef))
theorem mRes_ok (er : ER σ n e a) (m : MR G σ h.get nx w) : ∀ {l : List ResultVar} {vs : List Value}, mRes P e h l = some vs → ∃ us, VRs σ vs us ∧ (l.mapM (resVal a.tmps)).run P w = .ok us w
  | [], vs, hm => by injection hm with hm; subst hm; exact ⟨[], .nil, rfl⟩
  | r :: l, vs, hm => by
    have hm : (match (match r with | .tmp t => e.get t | .cell ad t => (match mLoad P h 0 t (e.get ad) with | .ok v _ _ => some v | .bad => none)), mRes P e h l with
      | some v, some vs => some (v :: vs)
      | _, _ => none) = some vs := hm
    split at hm
    · rename_i v vs' h1 h2
      injection hm with hm; subst hm
      obtain ⟨us, h3, h4⟩ := mRes_ok er m h2
      have key : ∀ x, VR σ v x → (resVal a.tmps r).run P w = .ok x w → ∃ us, VRs σ (v :: vs') us ∧ ((r :: l).mapM (resVal a.tmps)).run P w = .ok us w := fun x hv hx =>
        ⟨x :: us, .cons hv h3, by simp only [List.mapM_cons, Sem.run_bind, Sem.run_pure, Result.andThen_ok, hx, h4]⟩
      cases r with
      | tmp t =>
        obtain ⟨x, hx, hv⟩ := er.get t v h1
        exact key x hv (by
          have hg : a.tmps.getD t Go.undef = x := by simp [hx]
          simp only [resVal, hg]; rfl)
      | cell ad t =>
        simp only at h1
        cases hq : e.get ad with
        | none => rw [hq] at h1; simp [mLoad] at h1
        | some y =>
          rw [hq] at h1
          split at h1
          · rename_i v2 h5 n5 hl
            injection h1 with h1; subst h1
            obtain ⟨x0, hx0, hv0⟩ := er.get ad y hq
            obtain ⟨adr, x, hp, hv, hrun⟩ := loadVar_ok (P := P) hl hv0 m
            subst hp
            exact key x hv (by
              have hg : a.tmps.getD ad Go.undef = .pointer (some adr) := by simp [hx0]
              simp only [resVal, Sem.run_bind, hg, asAddr, Sem.run_pure, Result.andThen_ok, hrun])
          · cases h1
    · cases hm
theorem mRet_ok {vs us : List Value} (hv : VRs σ vs us) : VR σ (mRet vs) (mRet us) := by
  match vs, us, hv with
  | [], [], hv => exact .tuple .nil .nil
  | [x], [y], hv => exact hv
  | x :: x' :: vs, y :: y' :: us, hv => exact .tuple hv .nil
  | [], _ :: _, hv => cases hv
  | _ :: _, [], hv => have := hv.len; simp at this
  | [_], _ :: _ :: _, hv => have := hv.len; simp at this
  | _ :: _ :: _, [_], hv => have := hv.len; simp at this
theorem results_run {fn : Func} {us : List Value} (hr : (fn.results.toList.mapM (resVal a.tmps)).run P w = .ok us w) : (results fn a.tmps).run P w = .ok (mRet us) w := by
  have he : results fn a.tmps = (do let vs ← fn.results.mapM (resVal a.tmps); pure (if h : vs.size = 1 then vs[0] else .tuple vs)) := by
    unfold results
    congr 1
  rw [he, Array.mapM_eq_mapM_toList]
  simp only [Sem.run_bind, Sem.run_map, hr, Result.andThen_ok]
  match us with
  | [] => rfl
  | [x] => rfl
  | x :: y :: us => rfl
end
/-- The world differs in blocks that no number bears alone. -/
structure Sh (b0 : Nat) (σ : Sg) (h : Hf) (w w' : World) : Prop where
  os : w'.os = w.os
  tape : w'.tape = w.tape
  output : w'.output = w.output
  size : w'.heap.size = w.heap.size
  blk : ∀ r, (r < b0 ∨ ∃ id L, (h id).isSome = true ∧ σ id = some L ∧ L.blk = r) → w'.heap[r]? = w.heap[r]?
theorem Sh.mr {G b0 nx : Nat} {σ : Sg} {h : Hf} {w w' : World} (s : Sh b0 σ h w w') (m : MR G σ h nx w) : MR G σ h nx w' :=
  ⟨fun id B hb => let ⟨L, h1, h2⟩ := m.blk id B hb; ⟨L, h1, h2.keep (Sg.le.refl σ) (s.blk _ (.inr ⟨id, L, by rw [hb]; rfl, h1, rfl⟩))⟩, m.sep, m.free, m.glob, m.gle⟩
theorem Tr.sh {G b0 nx nx' : Nat} {σ σ' : Sg} {h h' : Hf} {w w' w'' : World} (t : Tr G σ h nx w σ' h' nx' w') (s : Sh b0 σ' h' w' w'') (hb : w.heap.size ≤ b0) : Tr G σ h nx w σ' h' nx' w'' where
  le := t.le
  ext := t.ext
  old := t.old
  mr := s.mr t.mr
  os := s.os.trans t.os
  tape := s.tape.trans t.tape
  output := s.output.trans t.output
  size := by rw [s.size]; exact t.size
  fr r hr hn := (s.blk r (.inl (by omega))).trans (t.fr r hr hn)
  src := t.src
  dom := t.dom
  qt r hr hq := ⟨(s.blk r (.inl (by omega))).trans (t.qt r hr hq).1, (t.qt r hr hq).2⟩
/-- A function is left: the marks' blocks are shut. -/
theorem leaves_ok {P : Program} {fn : Func} {tmps : Array Value} {R : Ending → World → Prop} {b0 : Nat} {σ : Sg} {h : Hf} {w0 : World} (fin : ∀ w', Sh b0 σ h w0 w' → ∃ v, (results fn tmps).run P w' = .ok v w' ∧ R (.returned v) w') :
    ∀ (bs : List Nat) (w : World), Sh b0 σ h w0 w → bs.Nodup → (∀ b ∈ bs, b0 ≤ b ∧ b < w.heap.size ∧ w.heap[b]? = some (.deferred (some [])) ∧ ∀ id L, (h id).isSome = true → σ id = some L → L.blk ≠ b) →
      LeavesInM Fence.wide 2 P fn tmps R (bs.map (fun b => { target := .collected b, args := #[] })) .returning w
  | [], w, hs, _, _ => fin w hs
  | b :: bs, w, hs, hn, hb => by
    obtain ⟨h1, h2, h3, h4⟩ := hb b (by simp)
    obtain ⟨hn1, hn2⟩ := List.nodup_cons.1 hn
    refine ⟨by simp, .inl ⟨b, _, rfl, run_takeDeferred h3, ?_⟩⟩
    refine leaves_ok fin bs _ ⟨hs.os, hs.tape, hs.output, by rw [World.putObj_size]; exact hs.size, fun r hr => ?_⟩ hn2 fun b' hb' => ?_
    · refine (World.putObj_heap_other fun e => ?_).trans (hs.blk r hr)
      subst e
      rcases hr with hr | ⟨id, L, h5, h6, h7⟩
      · omega
      · exact h4 id L h5 h6 h7
    · obtain ⟨h5, h6, h7, h8⟩ := hb b' (by simp [hb'])
      exact ⟨h5, by rw [World.putObj_size]; exact h6, (World.putObj_heap_other fun e => hn1 (by rw [← e]; exact hb')).trans h7, h8⟩
/-- A call by its body. -/
theorem body_ok {P : Program} {G fuel : Nat} {dr : CallF → Nat → RegF} {call : CallF} (hc : CallsOk P G call) (hd : ∀ n, RegOk P G n (dr call n)) (f : FuncId) (args : List Value) (h : Hp) (nx : Nat) (v : Value) (h' : Hp) (nx' : Nat) (hm : mBody P G fuel dr call f args h nx = .ok v h' nx') :
    ∀ σ w us, VRs σ args us → MR G σ h.get nx w → Calls P f ⟨us⟩ w fun x w' => ∃ σ' u, x = .returned u ∧ VR σ' v u ∧ Tr G σ h.get nx w σ' h'.get nx' w' := by
  intro σ w us hv m
  obtain ⟨fn, hf, hm⟩ := oo_inv (show oo (P.funcs[f]?) .bad (fun fn => oo fn.body .bad (fun c => bo (Nat.ble args.length fn.ntmps) (mEnd P fn (mCode P G fn.ntmps fuel call (dr call fn.ntmps) true c (Tb.of args) h nx)) .bad)) = .ok v h' nx' from hm) (by simp)
  obtain ⟨c, hb, hm⟩ := oo_inv hm (by simp)
  obtain ⟨hle, hm⟩ := bo_inv hm (by simp)
  have hle := Nat.le_of_ble_eq_true hle
  have hlen := hv.len
  refine (callsIn_wide (n := 2)).1 (callsIn_of_wp_marks hf hb trivial ?_)
  have er : ER σ fn.ntmps (Tb.of args) { tmps := (⟨us⟩ : Array Value) ++ Array.replicate (fn.ntmps - us.length) Go.undef, defers := [] } := by
    refine ⟨by simp; omega, fun k v hk => ?_⟩
    rw [Tb.get_of] at hk
    obtain ⟨u, hu, hr⟩ := hv.get hk
    have hlt := (List.getElem?_eq_some_iff.1 hu).1
    exact ⟨u, by rw [Array.getElem?_append_left (by simpa using hlt)]; simpa using hu, hr⟩
  refine code_ok (rd := none) true (fun _ => rfl) fuel hc (hd fn.ntmps) c (Tb.of args) h nx σ _ w _ w.heap.size er m Mk.nil (Nat.le_refl _) ?_
  cases hr : mCode P G fn.ntmps fuel call (dr call fn.ntmps) true c (Tb.of args) h nx with
  | bad => rw [hr] at hm; cases hm
  | ext id e1 h1 n1 => rw [hr] at hm; cases hm
  | nrm e1 h1 n1 =>
    rw [hr] at hm
    obtain ⟨hem, hm⟩ := bo_inv (show bo fn.results.toList.isEmpty (OR.ok (mRet []) h1 n1) OR.bad = OR.ok v h' nx' from hm) (by simp)
    obtain ⟨rfl, rfl, rfl⟩ := ok_inj hm
    intro σ' w' a' ht er' mk'
    have hl : fn.results.toList = [] := by simpa using hem
    obtain ⟨bs, hds, hnd, hbs⟩ := mk'
    show LeavesInM _ _ _ _ _ _ a'.defers _ _
    rw [hds]
    refine leaves_ok (b0 := w.heap.size) (σ := σ') (h := h1.get) (w0 := w') (fun w2 hs => ?_) bs w' ⟨rfl, rfl, rfl, rfl, fun _ _ => rfl⟩ hnd hbs
    exact ⟨mRet [], results_run (by rw [hl]; rfl), σ', mRet [], rfl, mRet_ok .nil, ht.sh hs (Nat.le_refl _)⟩
  | ret e1 h1 n1 =>
    rw [hr] at hm
    obtain ⟨vs, hvs, hm⟩ := oo_inv (show oo (mRes P e1 h1 fn.results.toList) OR.bad (fun vs => OR.ok (mRet vs) h1 n1) = OR.ok v h' nx' from hm) (by simp)
    obtain ⟨rfl, rfl, rfl⟩ := ok_inj hm
    intro σ' w' a' ht er' mk'
    obtain ⟨bs, hds, hnd, hbs⟩ := mk'
    show LeavesInM _ _ _ _ _ _ a'.defers _ _
    rw [hds]
    refine leaves_ok (b0 := w.heap.size) (σ := σ') (h := h1.get) (w0 := w') (fun w2 hs => ?_) bs w' ⟨rfl, rfl, rfl, rfl, fun _ _ => rfl⟩ hnd hbs
    obtain ⟨us', h2, h3⟩ := mRes_ok er' (hs.mr ht.mr) hvs
    exact ⟨mRet us', results_run h3, σ', mRet us', rfl, mRet_ok h2, ht.sh hs (Nat.le_refl _)⟩
theorem putL_ok {σ : Sg} {n : Nat} : ∀ (ps : List Nat) (args us : List Value) (e e' : Tb Value) (a : Array Value), putL n ps args e = some e' → VRs σ args us → a.size = n → (∀ k v, e.get k = some v → ∃ u, a[k]? = some u ∧ VR σ v u) →
    us.length = ps.length ∧ ((ps.zip us).foldl (fun tmps (p : Nat × Value) => tmps.setIfInBounds p.1 p.2) a).size = n ∧ ∀ k v, e'.get k = some v → ∃ u, ((ps.zip us).foldl (fun tmps (p : Nat × Value) => tmps.setIfInBounds p.1 p.2) a)[k]? = some u ∧ VR σ v u
  | [], args, us, e, e', a, hp, hv, hs, hg => by
    cases args with
    | nil =>
      injection hp with hp; subst hp
      obtain rfl := hv.inv_nil
      exact ⟨rfl, hs, hg⟩
    | cons x xs => cases hp
  | d :: ps, args, us, e, e', a, hp, hv, hs, hg => by
    cases args with
    | nil => cases hp
    | cons x xs =>
      obtain ⟨y, ys, rfl, hxy, hv⟩ := hv.inv
      obtain ⟨hd, hp⟩ := bo_inv (show bo (Nat.blt d n) (valS x (fun v => putS e d v (fun e => putL n ps xs e))) none = some e' from hp) (by simp)
      rw [valS_eq, putS_eq] at hp
      have hd := blt_lt hd
      obtain ⟨h1, h2, h3⟩ := putL_ok ps xs ys (e.put d x) e' (a.setIfInBounds d y) hp hv (by simp [hs]) (fun k v hk => by
        rw [Tb.get_put] at hk
        by_cases hkd : k = d
        · subst hkd
          rw [if_pos rfl] at hk; injection hk with hk; subst hk
          exact ⟨y, by rw [Array.getElem?_setIfInBounds_self_of_lt (by rw [hs]; exact hd)], hxy⟩
        · rw [if_neg hkd] at hk
          rw [Array.getElem?_setIfInBounds_ne (Ne.symm hkd)]
          exact hg k v hk)
      exact ⟨by simp [h1], h2, h3⟩
theorem rndEnd_ok {P : Program} {G l st nx nx' : Nat} {pend : Option (Option Nat)} {b : Bool} {h h' : Hp} {v : Value} (hm : rndEnd l st pend b h nx = .ok v h' nx') (jump : Option Code) (hst : lpSt st = (if jump.isNone then .ready else .done)) (hj : jump = pend.map jumpC) (hjb : jump.isNone = b)
    {σ : Sg} {w : World} (m : MR G σ h.get nx w) {L : Loc} (hL : σ l = some L) : ∃ w', (Instr.endRound L.blk jump).run P w = .ok (.bool b) w' ∧ v = .bool b ∧ Tr G σ h.get nx w σ h'.get nx' w' := by
  unfold rndEnd at hm
  split at hm
  · rename_i st' k e ps asg body pd hb
    rw [putS_eq] at hm
    obtain ⟨rfl, rfl, rfl⟩ := ok_inj hm
    obtain ⟨L', r, hL', _, hr, _⟩ := m.lp hb
    rw [hL] at hL'; injection hL' with hL'; subst hL'
    exact ⟨_, by rw [run_endRound jump hr, hjb], rfl, m.lpSet (st' := st) (pend' := pend) hb hL (fun r => { r with state := if jump.isNone then .ready else .done, pending := jump }) (fun r => ⟨hst.symm, rfl, rfl, rfl, rfl, fun _ => hj⟩) hr⟩
  · cases hm
theorem round_ok {P : Program} {G fuel : Nat} {dr : CallF → Nat → RegF} {call : CallF} (hc : CallsOk P G call) (hd : ∀ n, RegOk P G n (dr call n)) (l : Nat) (args : List Value) (h : Hp) (nx : Nat) (v : Value) (h' : Hp) (nx' : Nat) (hm : mRound P G fuel dr call l args h nx = .ok v h' nx') :
    ∀ σ w us, VRs σ args us → MR G σ h.get nx w → ∃ (L : Loc) (r : Loop), σ l = some L ∧ w.heap[L.blk]? = some (.loop r) ∧ us.length = r.params.size ∧
      RoundIn Fence.wide 2 P L.blk r.fn ((r.params.zip (⟨us⟩ : Array Value)).foldl (fun tmps (t, a) => tmps.setIfInBounds t a) r.tmps) r.assign r.body w (fun x w' => ∃ σ' u, x = .returned u ∧ VR σ' v u ∧ Tr G σ h.get nx w σ' h'.get nx' w') := by
  intro σ w us hv m
  unfold mRound at hm
  split at hm
  · rename_i n e ps asg body pd hb
    obtain ⟨e1, hpl, hm⟩ := oo_inv hm (by simp)
    obtain ⟨L, r, hL, hbase, hr, hst, hsz, hget, hps, hasg, hbody, hpend⟩ := m.lp hb
    obtain ⟨q1, q2, q3⟩ := putL_ok ps args us e e1 r.tmps hpl hv hsz hget
    have hfold : ((r.params.zip (⟨us⟩ : Array Value)).foldl (fun tmps (t, a) => tmps.setIfInBounds t a) r.tmps) = (ps.zip us).foldl (fun tmps (p : Nat × Value) => tmps.setIfInBounds p.1 p.2) r.tmps := by
      rw [← Array.foldl_toList, Array.toList_zip, hps]
    refine ⟨L, r, hL, hr, by rw [← Array.length_toList, hps]; exact q1, ?_⟩
    rw [hfold, hasg, hbody]
    generalize (ps.zip us).foldl (fun tmps (p : Nat × Value) => tmps.setIfInBounds p.1 p.2) r.tmps = tm at q2 q3
    have er : ER σ n e1 { tmps := tm, defers := [] } := ⟨q2, q3⟩
    refine roundIn_of_wpIn (F := Fence.wide) trivial ?_
    refine code_ok (rd := some L.blk) false (fun hh => by cases hh) fuel hc (hd n) asg e1 h nx σ _ w _ 0 er m Mk.nil (Nat.zero_le _) ?_
    cases hq : mCode P G n fuel call (dr call n) false asg e1 h nx with
    | bad => rw [hq] at hm; cases hm
    | ext id e2 h2 n2 => rw [hq] at hm; cases hm
    | ret e2 h2 n2 => rw [hq] at hm; cases hm
    | nrm e2 h2 n2 =>
      rw [hq] at hm
      simp only at hm
      intro σ2 w2 a2 t2 er2 mk2
      split at hm
      · rename_i n' e' ps' asg' body' pend' hb2
        rw [putS_eq] at hm
        obtain ⟨L2, r2, hL2, _, hr2, hst2, _⟩ := t2.mr.lp hb2
        have : L2 = L := by
          have := t2.ext l L hL
          rw [hL2] at this; injection this
        subst this
        have t3 := t2.mr.lpSet (st' := 1) (pend' := pend') hb2 hL2 (fun r => { r with state := .busy }) (fun r => ⟨rfl, rfl, rfl, rfl, rfl, fun h => h⟩) hr2
        refine ⟨_, run_beginRound hr2 hst2, ?_⟩
        refine code_ok (rd := some L2.blk) false (fun hh => by cases hh) fuel hc (hd n) body e2 _ n2 σ2 a2 _ _ 0 er2 t3.mr (mk2.tr t3) (Nat.zero_le _) ?_
        cases hq3 : mCode P G n fuel call (dr call n) false body e2 (h2.put l (.loop 1 n' e' ps' asg' body' pend')) n2 with
        | bad => rw [hq3] at hm; cases hm
        | nrm e3 h3 n3 =>
          rw [hq3] at hm
          intro σ3 w3 a3 t4 _ _
          obtain ⟨w4, h5, rfl, h6⟩ := rndEnd_ok (P := P) hm none rfl rfl rfl t4.mr (t4.ext _ _ hL2)
          exact ⟨_, w4, h5, σ3, _, rfl, VR.bool, (t2.trans t3).trans (t4.trans h6)⟩
        | ext id e3 h3 n3 =>
          rw [hq3] at hm
          intro σ3 w3 a3 t4 _ _
          obtain ⟨w4, h5, rfl, h6⟩ := rndEnd_ok (P := P) hm (some (.exit id)) rfl rfl rfl t4.mr (t4.ext _ _ hL2)
          exact ⟨_, w4, h5, σ3, _, rfl, VR.bool, (t2.trans t3).trans (t4.trans h6)⟩
        | ret e3 h3 n3 =>
          rw [hq3] at hm
          intro σ3 w3 a3 t4 _ _
          obtain ⟨w4, h5, rfl, h6⟩ := rndEnd_ok (P := P) hm (some .ret) rfl rfl rfl t4.mr (t4.ext _ _ hL2)
          exact ⟨_, w4, h5, σ3, _, rfl, VR.bool, (t2.trans t3).trans (t4.trans h6)⟩
      · cases hm
  · cases hm
theorem calls_ok {P : Program} {G fuel : Nat} {dr : CallF → Nat → RegF} {base : CallF} (hb : CallOk P G base) (hd : ∀ call n, CallsOk P G call → RegOk P G n (dr call n)) : ∀ d, CallsOk P G (mCalls P G fuel dr base d)
  | 0 => by
    refine ⟨fun f args h nx v h' nx' hlt hm => ?_, fun l args h nx v h' nx' hm => ?_⟩
    · have hm : bo (Nat.blt f P.funcs.size) (base f args h nx) OR.bad = .ok v h' nx' := hm
      exact hb f args h nx v h' nx' (bo_inv hm (by simp)).2
    · have hm : bo (Nat.blt (P.funcs.size + l) P.funcs.size) (base (P.funcs.size + l) args h nx) OR.bad = .ok v h' nx' := hm
      have := blt_lt (bo_inv hm (by simp)).1
      omega
  | d + 1 => by
    have ih := calls_ok (fuel := fuel) hb hd d
    refine ⟨fun f args h nx v h' nx' hlt hm => ?_, fun l args h nx v h' nx' hm => ?_⟩
    · have hm : bo (Nat.blt f P.funcs.size) (@OR.rec (fun _ => OR) (mBody P G fuel dr (mCalls P G fuel dr base d) f args h nx) .ok (base f args h nx)) (natS (Nat.sub f P.funcs.size) (fun l => mRound P G fuel dr (mCalls P G fuel dr base d) l args h nx)) = .ok v h' nx' := hm
      have hlt' : Nat.blt f P.funcs.size = true := Nat.ble_eq_true_of_le hlt
      rw [hlt', bo_true] at hm
      cases hq : base f args h nx with
      | bad => rw [hq] at hm; exact body_ok ih (fun n => hd _ n ih) f args h nx v h' nx' hm
      | ok v2 h2 n2 => rw [hq] at hm; exact hb f args h nx v h' nx' (hq.trans hm)
    · have hm : bo (Nat.blt (P.funcs.size + l) P.funcs.size) (@OR.rec (fun _ => OR) (mBody P G fuel dr (mCalls P G fuel dr base d) (P.funcs.size + l) args h nx) .ok (base (P.funcs.size + l) args h nx)) (natS (Nat.sub (P.funcs.size + l) P.funcs.size) (fun l => mRound P G fuel dr (mCalls P G fuel dr base d) l args h nx)) = .ok v h' nx' := hm
      cases hlt' : Nat.blt (P.funcs.size + l) P.funcs.size with
      | true => have := blt_lt hlt'; omega
      | false =>
        rw [hlt', bo_false, natS_eq, show Nat.sub (P.funcs.size + l) P.funcs.size = l from Nat.add_sub_cancel_left ..] at hm
        exact round_ok ih (fun n => hd _ n ih) l args h nx v h' nx' hm
end Go.Proofs.YthdlljlcffokbaaDoor
