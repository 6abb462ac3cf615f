/- The machine that runs closed code: append, maps. Over any program. No condition. -/
import Derived.Test.YtklciidffdnglaaDoorKi
import Derived.Deep.Upon
namespace Go.Proofs.YtklciidffdnglaaDoor
open Go.RowKit

section
variable {P : Program} {G : Nat} {o : Oper} {e : Tb Value} {h h' : Hp} {nx nx' : Nat} {v : Value}
theorem MR.lt {σ : Sg} {hf : Hf} {w : World} (m : MR G σ hf nx w) {id : Nat} {L : Loc} (hL : σ id = some L) : id < nx := by
  rcases Nat.lt_or_ge id nx with h1 | h1
  · exact h1
  · rw [m.free id h1] at hL; cases hL
/-- Less memory is known. -/
theorem MR.sub {σ : Sg} {hf hf' : Hf} {w : World} (m : MR G σ hf nx w) (hs : ∀ i B, hf' i = some B → hf i = some B) : MR G σ hf' nx w :=
  have hsome : ∀ i, (hf' i).isSome = true → (hf i).isSome = true := fun i hi => by
    obtain ⟨B, hB⟩ := Option.isSome_iff_exists.1 hi
    rw [hs i B hB]; rfl
  ⟨fun i B hB => m.blk i B (hs i B hB), fun i i' L L' h1 h2 => m.sep i i' L L' (hsome i h1) (hsome i' h2), m.free, m.glob, m.gle⟩
theorem Tr.sub {σ : Sg} {hf hf' : Hf} {w : World} (m : MR G σ hf nx w) (hs : ∀ i B, hf' i = some B → hf i = some B) : Tr G σ hf nx w σ hf' nx w :=
  ⟨Nat.le_refl _, Sg.le.refl σ, fun _ _ => rfl, m.sub hs, rfl, rfl, rfl, Nat.le_refl _, fun _ _ _ => rfl, fun i L' hi hl => .inr ⟨i, L', by
    obtain ⟨B, hB⟩ := Option.isSome_iff_exists.1 hi
    rw [hs i B hB]; rfl, hl, rfl⟩, fun i _ hn => by
    cases hq : hf' i with
    | none => rfl
    | some B => (rw [hs i B hq] at hn; cases hn), fun _ _ hq => ⟨rfl, fun i L1 B1 h1 h2 h3 => hq i L1 B1 (hs i B1 h1) h2 h3⟩⟩
/-- A block, or a part of it, gets another number. -/
theorem MR.renameAt {σ : Sg} {hf : Hf} {w : World} (m : MR G σ hf nx w) {id : Nat} {L L' : Loc} {B B' : Bl} (hb : hf id = some B) (hL : σ id = some L) (hblk : L'.blk = L.blk) (hbr : ∀ σ' : Sg, σ.le σ' → BR σ' L' w B') (hro : B.ro → B'.ro := by simp [Bl.ro]) :
    Tr G σ hf nx w (fun i => if i = nx then some L' else σ i) (fun i => if i = nx then some B' else if i = id then none else hf i) (nx + 1) w := by
  have hid := m.lt hL
  have hle : σ.le (fun i => if i = nx then some L' else σ i) := fun i L1 hi => by
    have := m.lt hi
    simp only [if_neg (show ¬ i = nx by omega)]; exact hi
  have hlive : ∀ i L1, (if i = nx then some B' else if i = id then none else hf i).isSome = true → (if i = nx then some L' else σ i) = some L1 → ∃ j L0, (hf j).isSome = true ∧ σ j = some L0 ∧ L0.blk = L1.blk ∧ (i = nx → j = id) ∧ (i ≠ nx → j = i ∧ i ≠ id) := fun i L1 h1 h2 => by
    by_cases e : i = nx
    · rw [if_pos e] at h2
      injection h2 with h2; subst h2
      exact ⟨id, L, by rw [hb]; rfl, hL, hblk.symm, fun _ => rfl, fun hn => absurd e hn⟩
    · rw [if_neg e] at h1 h2
      by_cases e2 : i = id
      · rw [if_pos e2] at h1; cases h1
      · rw [if_neg e2] at h1
        exact ⟨i, L1, h1, h2, rfl, fun hh => absurd hh e, fun _ => ⟨rfl, e2⟩⟩
  refine ⟨by omega, hle, fun i hi => by rw [if_neg (by omega)], ⟨fun i B2 hi => ?_, fun i i' L1 L2 h1 h2 h3 h4 h5 => ?_, fun i hi => ?_, fun g hg => ?_, by have := m.gle; omega⟩, rfl, rfl, rfl, Nat.le_refl _, fun _ _ _ => rfl, fun i L1 hi hs => ?_, fun i hi hn => by
      rw [if_neg (by omega)]
      by_cases e : i = id
      · rw [if_pos e]
      · rw [if_neg e]; exact hn, fun r hr hq => ⟨rfl, fun i L1 B1 (h1 : (if i = nx then some B' else if i = id then none else hf i) = some B1) (h2 : (if i = nx then some L' else σ i) = some L1) h3 => by
      by_cases e : i = nx
      · rw [if_pos e] at h1 h2
        injection h1 with h1; subst h1
        injection h2 with h2; subst h2
        exact hro (hq id L B hb hL (hblk.symm.trans h3))
      · rw [if_neg e] at h1 h2
        by_cases e2 : i = id
        · rw [if_pos e2] at h1; cases h1
        · rw [if_neg e2] at h1; exact hq i L1 B1 h1 h2 h3⟩⟩
  · by_cases e : i = nx
    · rw [if_pos e] at hi; injection hi with hi; subst hi
      exact ⟨L', by rw [if_pos e], hbr _ hle⟩
    · rw [if_neg e] at hi
      by_cases e2 : i = id
      · rw [if_pos e2] at hi; cases hi
      · rw [if_neg e2] at hi
        obtain ⟨L1, h1, h2⟩ := m.blk i B2 hi
        exact ⟨L1, by rw [if_neg e]; exact h1, h2.keep hle rfl⟩
  · obtain ⟨j, La, h6, h7, h10, h8, h9⟩ := hlive i L1 h1 h3
    obtain ⟨j', Lb, h6', h7', h10', h8', h9'⟩ := hlive i' L2 h2 h4
    have hj := m.sep j j' La Lb h6 h6' h7 h7' (by rw [h10, h10', h5])
    by_cases e : i = nx <;> by_cases e' : i' = nx
    · rw [e, e']
    · have := h9' e'; have := h8 e; omega
    · have := h9 e; have := h8' e'; omega
    · have := h9 e; have := h9' e'; omega
  · rw [if_neg (by omega)]; exact m.free i (by omega)
  · have := m.gle
    rw [if_neg (by omega)]; exact m.glob g hg
  · obtain ⟨j, L0, h6, h7, h8, _⟩ := hlive i L1 hi hs
    exact .inr ⟨j, L0, h6, h7, h8⟩
theorem MR.rename {σ : Sg} {hf : Hf} {w : World} (m : MR G σ hf nx w) {id : Nat} {L : Loc} {B : Bl} (hb : hf id = some B) (hL : σ id = some L) :
    Tr G σ hf nx w (fun i => if i = nx then some L else σ i) (fun i => if i = nx then some B else if i = id then none else hf i) (nx + 1) w :=
  m.renameAt hb hL rfl (fun σ' hs => by
    obtain ⟨L1, h1, h2⟩ := m.blk id B hb
    rw [hL] at h1; injection h1 with h1; subst h1
    exact h2.keep hs rfl) (fun h => h)
theorem app_exec {ρ : Operand → Value} {s x : Operand} {t u : TypeId} {w w' : World} {r : Value} (ho : o.op = .call { callee := .builtin .append, args := #[s, x], argTypes := #[t, u] })
    (hr : (Builtin.append_ #[t, u] o.type #[ρ s, ρ x]).run P w = .ok r w') : (execOp ρ o).run P w = .ok (.value r) w' := by
  unfold execOp
  simp only [ho, resolve, invoke, builtin, Sem.run_bind, Sem.run_pure, Result.andThen_ok, List.map_toArray, List.map_cons, List.map_nil, hr]
/-- A new row, with room behind. -/
theorem grow_ok {σ : Sg} {w : World} {hp : Hp} (m : MR G σ hp.get nx w) {el s n : Nat} {z : Value} (hzs : z.cells.toList.length = s) {cs us : List Value} (hv : VRs σ cs us) (hlen : us.length = n * s) {cap : Nat} (hcap : n ≤ cap) (c : Tb Value) (hc : ∀ i, c.get i = cs[i]?) :
    ∃ σ', VR σ' (.slice (some ⟨nx, 0, some s⟩) n 0) (.slice (some ⟨w.heap.size, 0, none⟩) n cap) ∧
      Tr G σ hp.get nx w σ' (hp.put nx (.cells el cs.length 0 c)).get (nx + 1) (w.drew.alloc (.cells (us.toArray ++ Builtin.zeroCells z.cells (cap - n)) el)) := by
  have hsz : (us.toArray ++ Builtin.zeroCells z.cells (cap - n)).size = cap * s := by
    have hz : z.cells.size = s := by simpa using hzs
    rw [Array.size_append, size_zeroCells, hz]
    simp only [List.size_toArray, hlen]
    rw [← Nat.add_mul]; congr 1; omega
  obtain ⟨σ', h1, h2, h3⟩ := m.newRowIn (w' := w.drew.alloc (.cells (us.toArray ++ Builtin.zeroCells z.cells (cap - n)) el)) (row := us.toArray ++ Builtin.zeroCells z.cells (cap - n)) (fz := (0, 0)) el c hv hc (heap_alloc_new w.drew _) (fun i u hu => by
      have hi := (List.getElem?_eq_some_iff.1 hu).1
      rw [Array.getElem?_append_left (by simpa using hi)]; simpa using hu) (by simp) (.inl rfl) ⟨rfl, rfl, rfl⟩ (by simp) (fun r hr => Below.heap_alloc w.drew _ r hr)
  rw [hsz] at h1
  exact ⟨σ', .slo (L := ⟨w.heap.size, 0, cap * s⟩) h1 hcap (by simp) .nil, h3⟩
theorem newRow_inv {el s n : Nat} {cs : List Value} (hm : mNewRow P h nx el s n cs = .ok v h' nx') :
    ∃ z, zeroTy P el = some z ∧ z.cells.toList.length = s ∧ v = .slice (some ⟨nx, 0, some s⟩) n 0 ∧ h' = h.put nx (.cells el cs.length 0 (Tb.of cs)) ∧ nx' = nx + 1 := by
  unfold mNewRow at hm
  split at hm
  · rename_i z hz
    obtain ⟨h1, hm⟩ := bo_inv hm (by simp)
    obtain ⟨rfl, rfl, rfl⟩ := newB_inv hm
    exact ⟨z, hz, Nat.eq_of_beq_eq_true h1, rfl, rfl, rfl⟩
  · cases hm
theorem fit_ok {need cap bytes : Nat} (h1 : cap < need) (h2 : need ≤ 16777216) (h3 : bytes ≤ 1048576) : Builtin.nextslicecap need cap * bytes ≤ 281474976710656 := by
  have h4 := nextslicecap_le h1
  have h5 : Builtin.nextslicecap need cap * bytes ≤ (2 * 16777216) * 1048576 := Nat.mul_le_mul (by omega) h3
  omega
theorem app_good {s x : Operand} {t u : TypeId} (ho : o.op = .call { callee := .builtin .append, args := #[s, x], argTypes := #[t, u] })
    (hk : (∃ e', P.underlying u = some (.slice e')) ∨ P.underlying u = some .string) (hm : mAppend P h nx t (evO G e s) (evO G e x) = .ok v h' nx') : Good P G o e h nx v h' nx' := by
  unfold mAppend at hm
  split at hm
  · rename_i a sl sc x' h1 h2
    split at hm
    · rename_i el sz n ht hl
      split at hm
      · rename_i i news hi hs
        obtain ⟨hc, hm1⟩ := bo_inv hm (by simp)
        clear hm
        have hm := hm1; clear hm1
        simp only [Bool.and_eq_true] at hc
        have hpos := blt_lt hc.1
        have h24 := Nat.le_of_ble_eq_true hc.2.1
        have hby := Nat.le_of_ble_eq_true hc.2.2.1
        have hone := hc.2.2.2
        obtain ⟨hu, i', hi', his⟩ := slEl ht
        rw [hi] at hi'; injection hi' with hi'; subst hi'
        subst his
        have src : ∀ (σ : Sg) (w : World) (ρ : Operand → Value), OE σ G e ρ → MR G σ h.get nx w → ∃ us, VRs σ news us ∧ news.length = n * i.size ∧ us.length = n * i.size ∧ Src P i.size u (ρ x) n us w := fun σ w ρ oe m => by
          obtain ⟨us, h3, h4, h5, h6, h7⟩ := src_ok (P := P) m hs (oe x _ h2)
          have h8 := (h7 n hl).1 rfl
          exact ⟨us, h3, h8, by omega, hk, (h7 n hl).2, h5, h6, by omega, h3.one hone⟩
        have grow : ∀ (σ : Sg) (w : World) (ρ : Operand → Value) (base : Option Addr) (cap : Nat) (us olds : List Value), Src P i.size u (ρ x) n us w → ρ s = .slice base sl cap → cap < sl + n → (Builtin.firstCells i.size sl (.slice base sl cap)).run P w.drew = .ok olds.toArray w.drew →
            ∀ z, i.zero = some z → (execOp ρ o).run P w = .ok (.value (.slice (some ⟨w.heap.size, 0, none⟩) (sl + n) (grownCap w (sl + n) cap el))) (w.drew.alloc (.cells ((olds ++ us).toArray ++ Builtin.zeroCells z.cells (grownCap w (sl + n) cap el - (sl + n))) el)) := fun σ w ρ base cap us olds hsrc hb hlt hold z hz => by
          refine app_exec ho ?_
          rw [hb]
          exact run_append_grow_src w t u o.type el i z hu hi hz base sl cap olds hold (ρ x) n us hsrc hlt (by omega) (fit_ok hlt h24 hby)
        cases a with
        | none =>
          obtain ⟨hc2, hm1⟩ := bo_inv (show appNil P h nx el i.size n sl sc news = _ from hm) (by simp)
          clear hm
          have hm := hm1; clear hm1
          simp only [Bool.and_eq_true] at hc2
          have hsl := Nat.eq_of_beq_eq_true hc2.1
          have hsc := Nat.eq_of_beq_eq_true hc2.2
          subst hsl; subst hsc
          cases hn : Nat.beq n 0 with
          | true =>
            rw [hn, bo_true] at hm
            have hn := Nat.eq_of_beq_eq_true hn
            subst hn
            obtain ⟨rfl, rfl, rfl⟩ := ok_inj hm
            refine good_pure fun σ w ρ oe m => ⟨.slice none 0 0, .sc _ rfl .nil, ?_⟩
            have hsx := (oe s _ h1).scal_inv rfl
            obtain ⟨us, h3, h4, h5, h6⟩ := src σ w ρ oe m
            have : us = [] := List.eq_nil_of_length_eq_zero (by omega)
            subst this
            refine app_exec ho ?_
            rw [hsx]
            exact run_append_nothing w t u o.type el i hu hi none 0 0 (Nat.le_refl _) (ρ x) h6
          | false =>
            rw [hn, bo_false] at hm
            have hn : n ≠ 0 := fun e => by subst e; simp at hn
            obtain ⟨z, hz, hzs, rfl, rfl, rfl⟩ := newRow_inv hm
            obtain ⟨i2, hi2, hiz, _⟩ := zeroTy_info hz
            rw [hi] at hi2; injection hi2 with hi2; subst hi2
            intro σ w ρ oe m
            have hsx := (oe s _ h1).scal_inv rfl
            obtain ⟨us, h3, h4, h5, h6⟩ := src σ w ρ oe m
            have hrun := grow σ w ρ none 0 us [] h6 hsx (by omega) rfl z hiz
            simp only [List.nil_append, Nat.zero_add] at hrun
            obtain ⟨σ', h7, h8⟩ := grow_ok m (el := el) hzs h3 h5 (grownCap_ge w n 0 el) (Tb.of news) (fun i => Tb.get_of _ i)
            exact ⟨_, _, .inl hrun, σ', h7, h8⟩
        | some a =>
        obtain ⟨id, off, sp⟩ := a
        cases sp with
        | none =>
          change appExact P h nx el i.size n sl sc id off news = _ at hm
          unfold appExact at hm
          cases hle : Nat.ble (sl + n) sc with
          | true =>
            rw [hle, bo_true] at hm
            have hle := Nat.le_of_ble_eq_true hle
            split at hm
            · rename_i h2' hw
              obtain ⟨rfl, rfl, rfl⟩ := ok_inj hm
              intro σ w ρ oe m
              obtain ⟨L, hL, hsx⟩ := (oe s _ h1).sl_inv
              obtain ⟨us, h3, h4, h5, h6⟩ := src σ w ρ oe m
              obtain ⟨el', n', k, c, hb, hle2, hk0, hone', hh'⟩ := wr_inv hw
              obtain ⟨row, fz, hr1, hr2, hr3, hr4, hr5, hr6, hr7⟩ := m.cells hb hL
              obtain ⟨_, htr⟩ := m.write (P := P) hw hL h3
              refine ⟨.slice (some ⟨L.blk, L.base + off, none⟩) (sl + n) sc, _, .inl (app_exec ho ?_), σ, .sl hL .nil, htr⟩
              rw [hsx]
              have hroom := run_append_room_src (P := P) w t u o.type el i hu hi L.blk (L.base + off) sl sc (ρ x) n us h6 hle
                (fun j hj => by rw [cell_of_row w L.blk _ row el' fz hr1, Array.getElem?_eq_getElem (by omega)]; rfl) (fun j hj => hr6 (by omega) _ (by omega))
              rw [show L.base + (off + sl * i.size) = L.base + off + sl * i.size by omega]
              exact hroom
            · obtain ⟨hn, hm⟩ := bo_inv hm (by simp)
              have hn := Nat.eq_of_beq_eq_true hn
              subst hn
              obtain ⟨rfl, rfl, rfl⟩ := ok_inj hm
              refine good_pure fun σ w ρ oe m => ?_
              obtain ⟨L, hL, hsx⟩ := (oe s _ h1).sl_inv
              obtain ⟨us, h3, h4, h5, h6⟩ := src σ w ρ oe m
              have : us = [] := List.eq_nil_of_length_eq_zero (by omega)
              subst this
              refine ⟨.slice (some ⟨L.blk, L.base + off, none⟩) (sl + 0) sc, .sl hL .nil, app_exec ho ?_⟩
              rw [hsx]
              exact run_append_nothing w t u o.type el i hu hi _ sl sc (by omega) (ρ x) h6
          | false =>
            rw [hle, bo_false] at hm
            have hle : sc < sl + n := by
              rcases Nat.lt_or_ge sc (sl + n) with hh | hh
              · exact hh
              · rw [Nat.ble_eq_true_of_le hh] at hle; cases hle
            split at hm
            · rename_i olds hold
              obtain ⟨z, hz, hzs, rfl, rfl, rfl⟩ := newRow_inv hm
              obtain ⟨i2, hi2, hiz, _⟩ := zeroTy_info hz
              rw [hi] at hi2; injection hi2 with hi2; subst hi2
              intro σ w ρ oe m
              obtain ⟨us, h3, h4, h5, h6⟩ := src σ w ρ oe m
              obtain ⟨L, hL, hsx⟩ := (oe s _ h1).sl_inv
              obtain ⟨os, g1, g2, g3, g4, g5⟩ := src_ok (P := P) m hold (.sl hL .nil)
              have g6 := (g5 sl rfl).1 rfl
              have hrun := grow σ w ρ _ sc us os h6 hsx hle g4 z hiz
              obtain ⟨σ', h7, h8⟩ := grow_ok m (el := el) hzs (g1.append h3) (by rw [List.length_append, h5, g2, g6, Nat.add_mul]) (grownCap_ge w (sl + n) sc el) (Tb.of (olds ++ news)) (fun i => Tb.get_of _ i)
              exact ⟨_, _, .inl hrun, σ', h7, h8⟩
            · cases hm
        | some zz =>
          obtain ⟨hc2, hm1⟩ := bo_inv (show appOpen P h nx el i.size n sl sc id off zz news = _ from hm) (by simp)
          clear hm
          have hm := hm1; clear hm1
          simp only [Bool.and_eq_true] at hc2
          have hzz := Nat.eq_of_beq_eq_true hc2.1
          have hsc := Nat.eq_of_beq_eq_true hc2.2
          subst hzz; subst hsc
          split at hm
          · rename_i el' mm k c hb
            cases hle : Nat.ble (off + (sl + n) * i.size) mm with
            | true =>
              rw [hle, bo_true] at hm
              have hle := Nat.le_of_ble_eq_true hle
              split at hm
              · rename_i h2' hw
                obtain ⟨rfl, rfl, rfl⟩ := ok_inj hm
                intro σ w ρ oe m
                obtain ⟨L, c', hL, hsc', hroom', _, hsx⟩ := (oe s _ h1).slo_inv
                obtain ⟨us, h3, h4, h5, h6⟩ := src σ w ρ oe m
                obtain ⟨el2, n', k', c2, hb', hle2, hk0, hone', hh'⟩ := wr_inv hw
                obtain ⟨row, fz, hr1, hr2, hr3, hr4, hr5, hr6, hr7⟩ := m.cells hb' hL
                rw [hb] at hb'; injection hb' with hb'; injection hb' with e1 e2 e3 e4; subst e2
                obtain ⟨_, htr⟩ := m.write (P := P) hw hL h3
                have hcap : sl + n ≤ c' := by
                  have : (sl + n) * i.size ≤ c' * i.size := by omega
                  exact Nat.le_of_mul_le_mul_right this hpos
                refine ⟨.slice (some ⟨L.blk, L.base + off, none⟩) (sl + n) c', _, .inl (app_exec ho ?_), σ, .slo hL hcap hroom' .nil, htr⟩
                rw [hsx]
                have hroom := run_append_room_src (P := P) w t u o.type el i hu hi L.blk (L.base + off) sl c' (ρ x) n us h6 hcap
                  (fun j hj => by
                    rw [Nat.add_mul] at hle
                    rw [cell_of_row w L.blk _ row el2 fz hr1, Array.getElem?_eq_getElem (by omega)]; rfl) (fun j hj => hr6 (by omega) _ (by rw [Nat.add_mul] at hle; omega))
                rw [show L.base + (off + sl * i.size) = L.base + off + sl * i.size by omega]
                exact hroom
              · cases hm
            | false =>
              rw [hle, bo_false] at hm
              split at hm
              · rename_i zv hzv
                obtain ⟨hc3, hm3⟩ := bo_inv hm (by simp)
                clear hm
                simp only [Bool.and_eq_true] at hc3
                have hzs := Nat.eq_of_beq_eq_true hc3.1
                have hm2 := Nat.eq_of_beq_eq_true hc3.2.1
                have hk0 := Nat.eq_of_beq_eq_true hc3.2.2.1
                have hee := Nat.eq_of_beq_eq_true hc3.2.2.2
                cases hoffb : Nat.beq off 0 with
                | false =>
                 rw [hoffb, bo_false] at hm3
                 subst hm2; subst hk0; subst hee
                 split at hm3
                 · rename_i olds hold
                   rw [listS_eq, delS_eq] at hm3
                   obtain ⟨rfl, rfl, rfl⟩ := newB_inv hm3
                   obtain ⟨i2, hi2, hiz, _⟩ := zeroTy_info hzv
                   rw [hi] at hi2; injection hi2 with hi2; subst hi2
                   intro σ w ρ oe m
                   obtain ⟨us, h3, h4, h5, h6⟩ := src σ w ρ oe m
                   obtain ⟨L, c', hL, hsc', hroom', _, hsx⟩ := (oe s _ h1).slo_inv
                   obtain ⟨row, fz, hr1, hr2, hr3, hr4, hr5, hr6, hr7⟩ := m.cells hb hL
                   have hlen := ldN_length _ _ _ hold
                   obtain ⟨os, g1, g2, g3⟩ := m.ldN hb hL (sl * i.size) off hold
                   rcases Nat.lt_or_ge c' (sl + n) with hcap | hcap
                   · have hf : (Builtin.firstCells i.size sl (.slice (some ⟨L.blk, L.base + off, none⟩) sl c')).run P w.drew = .ok os.toArray w.drew :=
                       run_firstCells_some w.drew i.size sl _ sl c' os (by rw [g2]) (fun j y hy => by
                         rw [Addr.add_mid]; exact g3 j y hy)
                     have hrun := grow σ w ρ _ c' us os h6 hsx hcap hf zv hiz
                     have m' : MR G σ (h.del id).get nx w := m.sub fun j B hB => by
                       rw [Tb.get_del] at hB
                       split at hB
                       · cases hB
                       · exact hB
                     obtain ⟨σ', h7, h8⟩ := grow_ok m' (el := el) hzs (g1.append h3) (by rw [List.length_append, h5, g2, Nat.add_mul]) (grownCap_ge w (sl + n) c' el) (Tb.of (olds ++ news)) (fun j => by rw [Tb.get_of])
                     refine ⟨_, _, .inl hrun, σ', h7, Tr.trans (Tr.sub m fun j B hB => ?_) h8⟩
                     rw [Tb.get_del] at hB
                     split at hB
                     · cases hB
                     · exact hB
                   · have hspace : L.base + off + sl * i.size + us.length ≤ L.size := by
                       have : (sl + n) * i.size ≤ c' * i.size := Nat.mul_le_mul_right _ hcap
                       rw [Nat.add_mul] at this
                       omega
                     have hroom := run_append_room_src (P := P) w t u o.type el i hu hi L.blk (L.base + off) sl c' (ρ x) n us h6 hcap
                       (fun j hj => by rw [cell_of_row w L.blk _ row el fz hr1, Array.getElem?_eq_getElem (by omega)]; rfl) (fun j hj => hr6 (by omega) _ (by omega))
                     have t1 := m.upd (B' := .cells el (off + sl * i.size + news.length) 0 (stN news c (off + sl * i.size))) (w' := w.setCells L.blk (L.base + off + sl * i.size) us) hb hL
                       ⟨rowPut row (L.base + off + sl * i.size) us, fz, setCells_row _ _ _ _ _ _ _ hr1, by rw [rowPut_size, hr2], by omega, fun j => by
                         rw [stN_get]
                         by_cases hj : off + sl * i.size ≤ j ∧ j < off + sl * i.size + news.length
                         · rw [if_pos hj, List.getElem?_eq_getElem (by omega)]; simp; omega
                         · rw [if_neg hj, hr4 j]; omega, fun j y hy => by
                         rw [stN_get] at hy
                         rw [rowPut_get _ _ _ _ (by omega)]
                         by_cases hj : off + sl * i.size ≤ j ∧ j < off + sl * i.size + news.length
                         · rw [if_pos hj] at hy
                           rw [if_pos (by omega), show L.base + j - (L.base + off + sl * i.size) = j - (off + sl * i.size) by omega]
                           exact h3.get hy
                         · rw [if_neg hj] at hy
                           rw [if_neg (by omega)]
                           exact hr5 j y hy, fun _ => hr7 (by simp)⟩
                       (setCells_rest _ _ _ _) (setCells_size _ _ _ _) (fun r hr => setCells_other _ _ _ _ r hr)
                     have hol : ∀ j, j < sl * i.size → c.get (off + j) = olds[j]? := fun j hj => ldN_get _ _ _ hold j hj
                     obtain ⟨L1, hL1, row2, fz2, q1, q2, q3, q4, q5, q6⟩ := t1.mr.blk id (.cells el (off + sl * i.size + news.length) 0 (stN news c (off + sl * i.size))) (if_pos rfl)
                     rw [hL] at hL1; injection hL1 with hL1; subst hL1
                     have hsh : ∀ j, (Tb.of (olds ++ news)).get j = if j < sl * i.size + news.length then (stN news c (off + sl * i.size)).get (off + j) else none := fun j => by
                       rw [Tb.get_of, stN_get]
                       by_cases hj : j < sl * i.size + news.length
                       · rw [if_pos hj]
                         by_cases hj2 : j < sl * i.size
                         · rw [if_neg (by omega), List.getElem?_append_left (by omega), hol j hj2]
                         · rw [if_pos (by omega), List.getElem?_append_right (by omega)]
                           congr 1; omega
                       · rw [if_neg hj, List.getElem?_eq_none (by simp; omega)]
                     have t2 := t1.mr.renameAt (id := id) (L := L) (L' := ⟨L.blk, L.base + off, L.size⟩) (B' := .cells el (olds ++ news).length 0 (Tb.of (olds ++ news))) (by rw [if_pos rfl]) hL rfl (fun σ' hs => ⟨row2, fz2, q1, q2, by simp; omega, fun j => by
                       rw [Tb.get_of]; simp, fun j y hy => by
                       rw [hsh] at hy
                       split at hy
                       · obtain ⟨u0, hu0, hr0⟩ := q5 (off + j) y hy
                         exact ⟨u0, by rw [← hu0]; show row2[L.base + off + j]? = row2[L.base + (off + j)]?; rw [Nat.add_assoc], hr0.mono hs⟩
                       · (cases hy), q6⟩)
                     refine ⟨.slice (some ⟨L.blk, L.base + off, none⟩) (sl + n) c', w.setCells L.blk (L.base + off + sl * i.size) us, .inl (app_exec ho ?_), (fun j => if j = nx then some ⟨L.blk, L.base + off, L.size⟩ else σ j), .slo (L := ⟨L.blk, L.base + off, L.size⟩) (off := 0) (by rw [if_pos rfl]) hcap (by simpa using hroom') .nil, ?_⟩
                     · rw [hsx]; exact hroom
                     · have hget : ((h.del id).put nx (.cells el (olds ++ news).length 0 (Tb.of (olds ++ news)))).get = fun j => if j = nx then some (.cells el (olds ++ news).length 0 (Tb.of (olds ++ news))) else if j = id then none else h.get j := by
                         rw [Tb.put_fun]; funext j; rw [Tb.get_del]
                       rw [hget]
                       have hfun : (fun j => if j = nx then some (Bl.cells el (olds ++ news).length 0 (Tb.of (olds ++ news))) else if j = id then none else h.get j) = (fun j => if j = nx then some (Bl.cells el (olds ++ news).length 0 (Tb.of (olds ++ news))) else if j = id then none else if j = id then some (Bl.cells el (off + sl * i.size + news.length) 0 (stN news c (off + sl * i.size))) else h.get j) := by
                         funext j
                         by_cases e1 : j = nx
                         · rw [if_pos e1, if_pos e1]
                         · rw [if_neg e1, if_neg e1]
                           by_cases e2 : j = id
                           · rw [if_pos e2, if_pos e2]
                           · rw [if_neg e2, if_neg e2, if_neg e2]
                       rw [hfun]
                       exact t1.trans t2
                 · cases hm3
                | true =>
                rw [hoffb, bo_true] at hm3
                have hoff := Nat.eq_of_beq_eq_true hoffb
                subst hoff
                rw [Nat.zero_add] at hm2
                subst hm2; subst hk0; subst hee
                rw [stS_eq, delS_eq] at hm3
                obtain ⟨rfl, rfl, rfl⟩ := newB_inv hm3
                obtain ⟨i2, hi2, hiz, _⟩ := zeroTy_info hzv
                rw [hi] at hi2; injection hi2 with hi2; subst hi2
                intro σ w ρ oe m
                obtain ⟨us, h3, h4, h5, h6⟩ := src σ w ρ oe m
                obtain ⟨L, c', hL, hsc', hroom', _, hsx⟩ := (oe s _ h1).slo_inv
                obtain ⟨row, fz, hr1, hr2, hr3, hr4, hr5, hr6, hr7⟩ := m.cells hb hL
                have hidne : id ≠ nx := by have := m.lt hL; omega
                have hget : ((h.del id).put nx (.cells el (sl * i.size + news.length) 0 (stN news c (sl * i.size)))).get = fun j => if j = nx then some (.cells el (sl * i.size + news.length) 0 (stN news c (sl * i.size))) else if j = id then none else h.get j := by
                  rw [Tb.put_fun]; funext j; rw [Tb.get_del]
                rcases Nat.lt_or_ge c' (sl + n) with hcap | hcap
                · obtain ⟨os, g1, g2, g3⟩ : ∃ os, VRs σ ((List.range (sl * i.size)).map fun j => (c.get j).getD undef) os ∧ os.length = sl * i.size ∧ w.rangeAt L.blk (L.base + 0) os := by
                    refine ⟨(List.range (sl * i.size)).map fun j => row.getD (L.base + j) undef, VRs.of_get (by simp) fun j y hy => ?_, by simp, fun j y hy => ?_⟩
                    · have hj := (List.getElem?_eq_some_iff.1 hy).1
                      simp only [List.length_map, List.length_range] at hj
                      obtain ⟨v0, hv0⟩ := Option.isSome_iff_exists.1 ((hr4 j).2 hj)
                      obtain ⟨u0, hu0, hr0⟩ := hr5 j v0 hv0
                      refine ⟨u0, ?_, ?_⟩
                      · simp [hj, hu0]
                      · simp [hj, hv0] at hy; subst hy; exact hr0
                    · have hj := (List.getElem?_eq_some_iff.1 hy).1
                      simp only [List.length_map, List.length_range] at hj
                      obtain ⟨v0, hv0⟩ := Option.isSome_iff_exists.1 ((hr4 j).2 hj)
                      obtain ⟨u0, hu0, hr0⟩ := hr5 j v0 hv0
                      rw [cell_of_row w L.blk _ row el fz hr1, Nat.add_zero]
                      simp [hj, hu0] at hy
                      rw [hu0, hy]
                  have hf : (Builtin.firstCells i.size sl (.slice (some ⟨L.blk, L.base + 0, none⟩) sl c')).run P w.drew = .ok os.toArray w.drew :=
                    run_firstCells_some w.drew i.size sl _ sl c' os (by rw [g2]) (fun j y hy => by
                      rw [Addr.add_mid]; exact g3 j y hy)
                  have hrun := grow σ w ρ _ c' us os h6 hsx hcap hf zv hiz
                  have m' : MR G σ (h.del id).get nx w := m.sub fun j B hB => by
                    rw [Tb.get_del] at hB
                    split at hB
                    · cases hB
                    · exact hB
                  obtain ⟨σ', h7, h8⟩ := grow_ok m' (el := el) hzs (g1.append h3) (by rw [List.length_append, h5, g2, Nat.add_mul]) (grownCap_ge w (sl + n) c' el) (stN news c (sl * i.size)) (fun j => by
                    rw [stN_get]
                    by_cases hj : sl * i.size ≤ j ∧ j < sl * i.size + news.length
                    · rw [if_pos hj, List.getElem?_append_right (by simp; omega)]; simp
                    · rw [if_neg hj]
                      by_cases hj2 : j < sl * i.size
                      · rw [List.getElem?_append_left (by simpa using hj2)]
                        obtain ⟨v0, hv0⟩ := Option.isSome_iff_exists.1 ((hr4 j).2 hj2)
                        simp [hj2, hv0]
                      · rw [List.getElem?_eq_none (by simp; omega)]
                        cases hcg : c.get j with
                        | none => rfl
                        | some v0 => exact absurd ((hr4 j).1 (by rw [hcg]; rfl)) hj2)
                  rw [show (((List.range (sl * i.size)).map fun j => (c.get j).getD undef) ++ news).length = sl * i.size + news.length by simp] at h8
                  refine ⟨_, _, .inl hrun, σ', h7, Tr.trans (Tr.sub m fun j B hB => ?_) h8⟩
                  rw [Tb.get_del] at hB
                  split at hB
                  · cases hB
                  · exact hB
                · have hspace : L.base + sl * i.size + us.length ≤ L.size := by
                    have : (sl + n) * i.size ≤ c' * i.size := Nat.mul_le_mul_right _ hcap
                    rw [Nat.add_mul] at this
                    omega
                  have hroom := run_append_room_src (P := P) w t u o.type el i hu hi L.blk (L.base + 0) sl c' (ρ x) n us h6 hcap
                    (fun j hj => by rw [cell_of_row w L.blk _ row el fz hr1, Array.getElem?_eq_getElem (by omega)]; rfl) (fun j hj => hr6 (by omega) _ (by omega))
                  rw [Nat.add_zero] at hroom
                  have t1 := m.upd (B' := .cells el (sl * i.size + news.length) 0 (stN news c (sl * i.size))) (w' := w.setCells L.blk (L.base + sl * i.size) us) hb hL
                    ⟨rowPut row (L.base + sl * i.size) us, fz, setCells_row _ _ _ _ _ _ _ hr1, by rw [rowPut_size, hr2], by omega, fun j => by
                      rw [stN_get]
                      by_cases hj : sl * i.size ≤ j ∧ j < sl * i.size + news.length
                      · rw [if_pos hj, List.getElem?_eq_getElem (by omega)]; simp; omega
                      · rw [if_neg hj, hr4 j]; omega, fun j y hy => by
                      rw [stN_get] at hy
                      rw [rowPut_get _ _ _ _ (by omega)]
                      by_cases hj : sl * i.size ≤ j ∧ j < sl * i.size + news.length
                      · rw [if_pos hj] at hy
                        rw [if_pos (by omega), show L.base + j - (L.base + sl * i.size) = j - sl * i.size by omega]
                        exact h3.get hy
                      · rw [if_neg hj] at hy
                        rw [if_neg (by omega)]
                        exact hr5 j y hy, fun _ => hr7 (by simp)⟩
                    (setCells_rest _ _ _ _) (setCells_size _ _ _ _) (fun r hr => setCells_other _ _ _ _ r hr)
                  have t2 := t1.mr.rename (id := id) (L := L) (by rw [if_pos rfl]) hL
                  refine ⟨.slice (some ⟨L.blk, L.base + 0, none⟩) (sl + n) c', w.setCells L.blk (L.base + sl * i.size) us, .inl (app_exec ho ?_), (fun j => if j = nx then some L else σ j), .slo (L := L) (by rw [if_pos rfl]) hcap hroom' .nil, ?_⟩
                  · rw [hsx]; exact hroom
                  · rw [hget]
                    have hfun : (fun j => if j = nx then some (Bl.cells el (sl * i.size + news.length) 0 (stN news c (sl * i.size))) else if j = id then none else h.get j) = (fun j => if j = nx then some (Bl.cells el (sl * i.size + news.length) 0 (stN news c (sl * i.size))) else if j = id then none else if j = id then some (Bl.cells el (sl * i.size + news.length) 0 (stN news c (sl * i.size))) else h.get j) := by
                      funext j
                      by_cases e1 : j = nx
                      · rw [if_pos e1, if_pos e1]
                      · rw [if_neg e1, if_neg e1]
                        by_cases e2 : j = id
                        · rw [if_pos e2, if_pos e2]
                        · rw [if_neg e2, if_neg e2, if_neg e2]
                    rw [hfun]
                    exact t1.trans t2
              · cases hm
          · cases hm
      · cases hm
    · cases hm
  · cases hm
theorem ba_beq (a b : ByteArray) : (a == b) = (a.data.toList == b.data.toList) := by
  obtain ⟨⟨d⟩⟩ := a; obtain ⟨⟨d'⟩⟩ := b
  have h1 : ((⟨⟨d⟩⟩ : ByteArray) == ⟨⟨d'⟩⟩) = ((⟨d⟩ : Array UInt8) == ⟨d'⟩) := rfl
  rw [h1]; simp
theorem keyEq_same {k k' : Value} {b : Bool} (hk : keyEq k k' = some b) : scal k' = true ∧ (b = true → k = k') := by
  unfold keyEq at hk
  split at hk
  · injection hk with hk
    refine ⟨rfl, fun hb => ?_⟩
    rename_i x y
    rw [hb, byEq_ok] at hk
    have : x.data.toList = y.data.toList := by simpa using hk
    obtain ⟨⟨d⟩⟩ := x; obtain ⟨⟨d'⟩⟩ := y
    simp only at this; subst this; rfl
  · obtain ⟨h1, h2⟩ := bo_inv hk (by simp)
    injection h2 with h2
    refine ⟨rfl, fun hb => ?_⟩
    rw [hb, iEq_ok] at h2
    rw [ikn_inj h1, eq_of_beq h2]
  · injection hk with hk
    refine ⟨rfl, fun hb => ?_⟩
    rw [hb] at hk
    rw [eq_of_beq hk]
  · cases hk
theorem keyEq_now {kt : TypeId} {d : TypeDesc} {k k' : Value} {b : Bool} {el : TypeId} {t : TypeId} (hu : P.underlying t = some (.map kt el)) (hd : P.underlying kt = some d) (hk : keyTy P t k = some el) (he : keyEq k k' = some b) : Instr.sameNow d k k' = some b := by
  unfold keyTy at hk
  rw [hu] at hk
  simp only [hd] at hk
  unfold keyEq at he
  split at he
  · injection he with he; subst he
    split at hk
    · rename_i h2 h3; injection h2 with h2; subst h2
      simp only [Instr.sameNow, byEq_ok, ba_beq]
    · rename_i h2 h3; cases h3
    · rename_i h2 h3; cases h3
    · cases hk
  · obtain ⟨h1, h2⟩ := bo_inv he (by simp)
    injection h2 with h2; subst h2
    have := ikn_inj h1; subst this
    split at hk
    · rename_i h3; cases h3
    · rename_i h2 h3; injection h2 with h2; subst h2
      simp [Instr.sameNow, iEq_ok]
    · rename_i h3; cases h3
    · cases hk
  · injection he with he; subst he
    split at hk
    · rename_i h3; cases h3
    · rename_i h3; cases h3
    · rename_i h2 h3; injection h2 with h2; subst h2
      simp [Instr.sameNow]
    · cases hk
  · cases he
theorem keyTy_ok {t el : TypeId} {k : Value} (hk : keyTy P t k = some el) : ∃ kt d, P.underlying t = some (.map kt el) ∧ P.underlying kt = some d ∧ scal k = true ∧ (∀ b w, (Instr.checkKey b 10000 kt k).run P w = .ok () w) := by
  unfold keyTy at hk
  split at hk
  · rename_i kt v' hu
    split at hk
    · rename_i s hd
      injection hk with hk; subst hk
      refine ⟨kt, _, hu, hd, rfl, fun b w => ?_⟩
      show (Instr.checkKey b (9999 + 1) kt _).run P w = _
      unfold Instr.checkKey
      simp [run_underlying hd]
    · rename_i s hd
      injection hk with hk; subst hk
      refine ⟨kt, _, hu, hd, rfl, fun b w => ?_⟩
      show (Instr.checkKey b (9999 + 1) kt _).run P w = _
      unfold Instr.checkKey
      simp [run_underlying hd]
    · rename_i s hd
      injection hk with hk; subst hk
      refine ⟨kt, _, hu, hd, rfl, fun b w => ?_⟩
      show (Instr.checkKey b (9999 + 1) kt _).run P w = _
      unfold Instr.checkKey
      simp [run_underlying hd]
    · cases hk
  · cases hk
/-- What is found for a key. -/
def FoundR (σ : Sg) (k : Value) (es : List MapEntry) (i : Nat) : Option (Nat × Value) → Option (Nat × Value) → Prop
  | none, none => True
  | some (j, v), some (j', u) => j = j' ∧ i ≤ j ∧ j - i < es.length ∧ VR σ v u ∧ (∃ en, es[j - i]? = some en ∧ en.key = k)
  | _, _ => False
theorem findNow_cons (d : TypeDesc) (k : Value) (en : MapEntry) (es : List MapEntry) (i : Nat) : Instr.findNow d k (en :: es) i = match Instr.sameNow d k en.key with | some true => some (some (i, en.val)) | some false => Instr.findNow d k es (i + 1) | none => none := rfl
theorem findL_ok {σ : Sg} {kt el t : TypeId} {d : TypeDesc} {k : Value} (hu : P.underlying t = some (.map kt el)) (hd : P.underlying kt = some d) (hk : keyTy P t k = some el) : ∀ (l : List (Value × Value)) (es : List MapEntry) (i : Nat) {r : Option (Nat × Value)},
    findL k l i = some r → VRs σ (l.map (·.1)) (es.map (·.key)) → VRs σ (l.map (·.2)) (es.map (·.val)) → ∃ r', Instr.findNow d k es i = some r' ∧ FoundR σ k es i r r'
  | [], [], i, r, hf, _, _ => by injection hf with hf; subst hf; exact ⟨none, rfl, trivial⟩
  | [], _ :: _, i, r, hf, h1, _ => by cases h1
  | _ :: _, [], i, r, hf, h1, _ => by have := h1.len; simp at this
  | p :: l, en :: es, i, r, hf, h1, h2 => by
    obtain ⟨y, ys, e1, h3, h4⟩ := h1.inv
    injection e1 with e1 e2; subst e1; subst e2
    obtain ⟨z, zs, e1, h5, h6⟩ := h2.inv
    injection e1 with e1 e2; subst e1; subst e2
    unfold findL at hf
    split at hf
    · rename_i hq
      injection hf with hf; subst hf
      obtain ⟨hs, heq⟩ := keyEq_same hq
      have hkey : en.key = p.1 := h3.scal_inv hs
      refine ⟨some (i, en.val), ?_, rfl, Nat.le_refl _, by simp, h5, en, by simp, by rw [hkey, heq rfl]⟩
      rw [findNow_cons, hkey, keyEq_now hu hd hk hq]
    · rename_i hq
      obtain ⟨hs, _⟩ := keyEq_same hq
      have hkey : en.key = p.1 := h3.scal_inv hs
      obtain ⟨r', h7, h8⟩ := findL_ok hu hd hk l es (i + 1) hf h4 h6
      refine ⟨r', ?_, ?_⟩
      · rw [findNow_cons, hkey, keyEq_now hu hd hk hq]
        exact h7
      · cases r with
        | none => cases r' with
          | none => trivial
          | some _ => exact h8
        | some p => cases r' with
          | none => exact h8
          | some p' =>
            obtain ⟨j, v⟩ := p
            obtain ⟨j', u⟩ := p'
            obtain ⟨a1, a2, a3, a4, en', a5, a6⟩ := h8
            refine ⟨a1, by omega, by simp; omega, a4, en', ?_, a6⟩
            rw [show j - i = (j - (i + 1)) + 1 by omega]; simpa using a5
    · cases hf
theorem run_findKey {kt : TypeId} {d : TypeDesc} {k : Value} {es : List MapEntry} {r : Option (Nat × Value)} (hd : P.underlying kt = some d) (hf : Instr.findNow d k es 0 = some r) (w : World) : (Instr.findKey kt k es).run P w = .ok r w := by
  unfold Instr.findKey
  simp [run_underlying hd, hf]
theorem makeMap_good {t : TypeId} {r : Option Operand} (ho : o.op = .makeMap t r) (hm : mMakeMap P h nx t (r.map (evO G e)) = .ok v h' nx') : Good P G o e h nx v h' nx' := by
  have fin : ∀ (σ : Sg) (w : World), MR G σ h.get nx w → ∃ σ', VR σ' (.map (some nx)) (.map (some w.heap.size)) ∧ Tr G σ h.get nx w σ' (h.put nx (.map 0 [] [])).get (nx + 1) (w.alloc (.map #[] 0)) := fun σ w m => by
    have := m.new (w' := w.alloc (.map #[] 0)) ⟨w.heap.size, 0, 0⟩ (.map 0 [] []) rfl ⟨rfl, rfl, rfl⟩ (by simp) (fun r hr => Below.heap_alloc w _ r hr) (fun σ' hs => ⟨#[], heap_alloc_new w _, .nil, .nil, rfl⟩)
    rw [Tb.put_fun]
    exact ⟨_, .map (L := ⟨w.heap.size, 0, 0⟩) (by simp) .nil, this⟩
  unfold mMakeMap at hm
  split at hm
  · rename_i hr
    obtain ⟨rfl, rfl, rfl⟩ := newB_inv hm
    obtain rfl := map_nil hr
    intro σ w ρ oe m
    obtain ⟨σ', h1, h2⟩ := fin σ w m
    refine ⟨_, _, .inl ?_, σ', h1, h2⟩
    unfold execOp
    simp [ho, Instr.makeMap]
  · rename_i k n hr
    split at hm
    · rename_i kt el hu
      obtain ⟨rfl, rfl, rfl⟩ := newB_inv hm
      intro σ w ρ oe m
      obtain ⟨σ', h1, h2⟩ := fin σ w m
      cases r with
      | none => cases hr
      | some x =>
        simp only [Option.map_some, Option.some.injEq] at hr
        have hx := (oe x _ hr).scal_inv rfl
        refine ⟨_, _, .inl ?_, σ', h1, h2⟩
        unfold execOp
        simp [ho, hx, Instr.makeMap, run_underlying hu, asInt, asIntOf]
    · cases hm
  · cases hm
theorem mapL_ok {σ : Sg} {w : World} {r : Option Nat} {l : List (Value × Value)} {u : Value} (m : MR G σ h.get nx w) (hl : mapL h r = some l) (hu : VR σ (.map r) u) :
    ∃ (es : List MapEntry), VRs σ (l.map (·.1)) (es.map (·.key)) ∧ VRs σ (l.map (·.2)) (es.map (·.val)) ∧
      ((u = .map none ∧ es = []) ∨ ∃ (L : Loc) (clock : Nat), r.isSome = true ∧ u = .map (some L.blk) ∧ w.heap[L.blk]? = some (.map es.toArray clock)) := by
  cases r with
  | none =>
    injection hl with hl; subst hl
    exact ⟨[], .nil, .nil, .inl ⟨hu.scal_inv rfl, rfl⟩⟩
  | some id =>
    unfold mapL at hl
    simp only at hl
    split at hl
    · rename_i clock bs l' hb
      injection hl with hl; subst hl
      obtain ⟨L, hL, rfl⟩ := hu.map_inv
      obtain ⟨L', hL', es, h2, h3, h4, h5⟩ := m.blk id _ hb
      rw [hL] at hL'; injection hL' with hL'; subst hL'
      exact ⟨es.toList, h3, h4, .inr ⟨L, clock, rfl, rfl, by simpa using h2⟩⟩
    · cases hl
theorem lookup_good {t : TypeId} {x k : Operand} {ok : Bool} (ho : o.op = .lookup t x k ok) (hm : mLookup P h nx t ok (evO G e x) (evO G e k) = .ok v h' nx') : Good P G o e h nx v h' nx' := by
  unfold mLookup at hm
  split at hm
  · rename_i r kv h1 h2
    split at hm
    · rename_i el l hkt hl
      obtain ⟨kt, d, hu, hd, hsc, hck⟩ := keyTy_ok hkt
      have fin : ∀ (σ : Sg) (w : World) (ρ : Operand → Value) (es : List MapEntry) (r' : Option (Nat × Value)) (res : Value) (b : Bool), ρ k = kv → ((ρ x = .map none ∧ es = []) ∨ ∃ (L : Loc) (clock : Nat), r.isSome = true ∧ ρ x = .map (some L.blk) ∧ w.heap[L.blk]? = some (.map es.toArray clock)) →
          Instr.findNow d kv es 0 = some r' → (match r' with | some (_, v) => res = v ∧ b = true | none => (∃ i, P.info? el = some i ∧ i.zero = some res) ∧ b = false) → (execOp ρ o).run P w = .ok (.value (if ok then .tuple #[res, .bool b] else res)) w := by
        intro σ w ρ es r' res b hkv hx hf hr
        have hfk := run_findKey (P := P) hd hf w
        have hlk : (Instr.lookup t (ρ x) (ρ k) ok).run P w = .ok (if ok then .tuple #[res, .bool b] else res) w := by
          rw [hkv]
          unfold Instr.lookup
          simp only [Sem.run_bind, run_underlying hu, Result.andThen_ok]
          rcases hx with ⟨hx, rfl⟩ | ⟨L, clock, _, hx, hb⟩
          · rw [hx]
            simp only [Sem.run_bind, Sem.run_pure, Result.andThen_ok, hck, hfk]
            cases r' with
            | none =>
              obtain ⟨⟨i, hi, hz⟩, rfl⟩ := hr
              simp [zeroValue, typeInfo, hi, hz]
            | some p => obtain ⟨j, u⟩ := p; obtain ⟨rfl, rfl⟩ := hr; simp
          · rw [hx]
            simp only [Sem.run_bind, Sem.run_pure, Result.andThen_ok, run_getMap hb, hck, hfk]
            cases r' with
            | none =>
              obtain ⟨⟨i, hi, hz⟩, rfl⟩ := hr
              simp [zeroValue, typeInfo, hi, hz]
            | some p => obtain ⟨j, u⟩ := p; obtain ⟨rfl, rfl⟩ := hr; simp
        unfold execOp
        simp only [ho, Sem.run_bind, hlk, Result.andThen_ok]
        rfl
      have tup : ∀ (σ : Sg) (a u : Value) (b : Bool), VR σ a u → VR σ (bo ok (.tuple ⟨[a, .bool b]⟩) a) (if ok then .tuple #[u, .bool b] else u) := fun σ a u b hv => by
        cases ok with
        | true => exact .tuple (xs := [a, .bool b]) (ys := [u, .bool b]) (.cons hv VR.bool) .nil
        | false => exact hv
      split at hm
      · rename_i j a hf
        obtain ⟨rfl, rfl, rfl⟩ := ok_inj hm
        refine good_pure fun σ w ρ oe m => ?_
        obtain ⟨es, h3, h4, h5⟩ := mapL_ok m hl (oe x _ h1)
        obtain ⟨r', h6, h7⟩ := findL_ok hu hd hkt l es 0 hf h3 h4
        cases r' with
        | none => exact h7.elim
        | some p =>
          obtain ⟨j', u⟩ := p
          obtain ⟨_, _, _, hv, _⟩ := h7
          exact ⟨_, tup σ a u true hv, fin σ w ρ es _ u true ((oe k _ h2).scal_inv hsc) h5 h6 ⟨rfl, rfl⟩⟩
      · rename_i hf
        split at hm
        · rename_i z hz
          obtain ⟨rfl, rfl, rfl⟩ := ok_inj hm
          refine good_pure fun σ w ρ oe m => ?_
          obtain ⟨es, h3, h4, h5⟩ := mapL_ok m hl (oe x _ h1)
          obtain ⟨r', h6, h7⟩ := findL_ok hu hd hkt l es 0 hf h3 h4
          cases r' with
          | some p => exact h7.elim
          | none =>
            obtain ⟨i, hi, hiz, hfl⟩ := zeroTy_info hz
            exact ⟨_, tup σ z z false (VR.of_flat hfl), fin σ w ρ es _ z false ((oe k _ h2).scal_inv hsc) h5 h6 ⟨⟨i, hi, hiz⟩, rfl⟩⟩
        · cases hm
      · cases hm
    · cases hm
  · cases hm
theorem VRs.set {σ : Sg} : ∀ {us vs : List Value} (i : Nat) {a b : Value}, VRs σ us vs → VR σ a b → VRs σ (us.set i a) (vs.set i b)
  | [], vs, i, a, b, h1, _ => by rw [h1.inv_nil]; simp; exact .nil
  | x :: us, vs, i, a, b, h1, h2 => by
    obtain ⟨y, vs', rfl, h3, h4⟩ := h1.inv
    cases i with
    | zero => exact .cons h2 h4
    | succ i => exact .cons h3 (h4.set i h2)
theorem keyTy_bits {t el : TypeId} {k : Value} (n : Nat) (hk : keyTy P t k = some el) : Instr.sameBits n k k = true := by
  have hs : ∀ s : ByteArray, (s == s) = true := fun s => by rw [ba_beq]; simp
  unfold keyTy at hk
  split at hk
  · split at hk
    · rename_i s _; simp [Instr.sameBits, hs]
    · simp [Instr.sameBits]
    · simp [Instr.sameBits]
    · cases hk
  · cases hk
theorem update_good {t : TypeId} {mp k x : Operand} (ho : o.op = .mapUpdate t mp k x ∨ o.op = .insert t mp k x) (hm : mUpdate P h nx t (evO G e mp) (evO G e k) (evO G e x) = .ok v h' nx') : Good P G o e h nx v h' nx' := by
  unfold mUpdate at hm
  simp only [putS_eq, listS_eq, natS_eq] at hm
  split at hm
  · rename_i id kv xv h1 h2 h3
    split at hm
    · rename_i el clock bs l hkt hb
      obtain ⟨kt, d, hu, hd, hsc, hck⟩ := keyTy_ok hkt
      have fin : ∀ (σ : Sg) (w : World) (ρ : Operand → Value) (L : Loc) (es : Array MapEntry) (es' : Array MapEntry) (clock' : Nat) (bs' : List Nat) (l' : List (Value × Value)), MR G σ h.get nx w → σ id = some L → w.heap[L.blk]? = some (.map es clock) →
          (Instr.mapUpdate t (.map (some L.blk)) kv (ρ x)).run P w = .ok () { w with heap := w.heap.setIfInBounds L.blk (.map es' clock') } → ρ mp = .map (some L.blk) → ρ k = kv → VRs σ (l'.map (·.1)) (es'.toList.map (·.key)) → VRs σ (l'.map (·.2)) (es'.toList.map (·.val)) → es'.toList.map (·.born) = bs' →
          Does P ρ o w fun u w' => ∃ σ', VR σ' undef u ∧ Tr G σ h.get nx w σ' (h.put id (.map clock' bs' l')).get nx w' := by
        intro σ w ρ L es es' clock' bs' l' m hL hbk hrun hmp hkv hk1 hk2 hk3
        refine ⟨undef, { w with heap := w.heap.setIfInBounds L.blk (.map es' clock') }, .inr ⟨?_, rfl⟩, σ, VR.undef, ?_⟩
        · unfold execOp
          rcases ho with ho | ho <;> simp only [ho, hmp, hkv, Sem.run_bind, hrun, Result.andThen_ok] <;> rfl
        · rw [Tb.put_fun]
          have hlt : L.blk < w.heap.size := (Array.getElem?_eq_some_iff.1 hbk).1
          exact m.upd hb hL ⟨es', by simp [hlt], hk1, hk2, hk3⟩ ⟨rfl, rfl, rfl⟩ (by simp) (fun r hr => by simp [Array.getElem?_setIfInBounds_ne (Ne.symm hr)])
      split at hm
      · rename_i j a hf
        obtain ⟨rfl, rfl, rfl⟩ := ok_inj hm
        intro σ w ρ oe m
        obtain ⟨L, hL, hmp⟩ := (oe mp _ h1).map_inv
        obtain ⟨L', hL', es, hbk, h4, h5, h5b⟩ := m.blk id _ hb
        rw [hL] at hL'; injection hL' with hL'; subst hL'
        obtain ⟨r', h6, h7⟩ := findL_ok hu hd hkt l es.toList 0 hf h4 h5
        cases r' with
        | none => exact h7.elim
        | some p =>
          obtain ⟨j', u⟩ := p
          obtain ⟨rfl, _, hjl, hv, en, hen, hkey⟩ := h7
          rw [Nat.sub_zero] at hen hjl
          have hkv := (oe k _ h2).scal_inv hsc
          refine fin σ w ρ L es (es.modify j fun e => { e with key := kv, val := ρ x }) clock bs (l.set j (kv, xv)) m hL hbk ?_ hmp hkv ?_ ?_ ?_
          · have hfk := run_findKey (P := P) hd h6 w
            have hold : ((es[j]?).map (·.key)).getD kv = kv := by
              have : es[j]? = some en := by simpa using hen
              rw [this]; exact hkey
            unfold Instr.mapUpdate
            simp only [Sem.run_bind, run_underlying hu, Result.andThen_ok, run_getMap hbk, hck, hfk, hold, Instr.keyThatStays, keyTy_bits 10000 hkt, if_true, Sem.run_pure]
            unfold setObj
            simp only [Sem.run, hbk]
          · rw [List.map_set]
            have : ((es.modify j fun e => { e with key := kv, val := ρ x }).toList.map (·.key)) = (es.toList.map (·.key)).set j kv := by
              apply List.ext_getElem?
              intro i
              rw [Array.toList_modify, List.getElem?_map, List.getElem?_modify, List.getElem?_set, List.getElem?_map]
              by_cases hij : j = i
              · subst hij; simp [hen]
                simpa using hjl
              · simp [hij]
            rw [this]
            exact h4.set j (by have := oe k _ h2; rw [hkv] at this; exact this)
          · rw [List.map_set]
            have : ((es.modify j fun e => { e with key := kv, val := ρ x }).toList.map (·.val)) = (es.toList.map (·.val)).set j (ρ x) := by
              apply List.ext_getElem?
              intro i
              rw [Array.toList_modify, List.getElem?_map, List.getElem?_modify, List.getElem?_set, List.getElem?_map]
              by_cases hij : j = i
              · subst hij; simp [hen]
                simpa using hjl
              · simp [hij]
            rw [this]
            exact h5.set j (oe x _ h3)
          · rw [← h5b]
            apply List.ext_getElem?
            intro i
            rw [Array.toList_modify, List.getElem?_map, List.getElem?_modify, List.getElem?_map]
            by_cases hij : j = i
            · subst hij; simp [hen]
            · simp [hij]
      · rename_i hf
        obtain ⟨rfl, rfl, rfl⟩ := ok_inj hm
        intro σ w ρ oe m
        obtain ⟨L, hL, hmp⟩ := (oe mp _ h1).map_inv
        obtain ⟨L', hL', es, hbk, h4, h5, h5b⟩ := m.blk id _ hb
        rw [hL] at hL'; injection hL' with hL'; subst hL'
        obtain ⟨r', h6, h7⟩ := findL_ok hu hd hkt l es.toList 0 hf h4 h5
        cases r' with
        | some p => exact h7.elim
        | none =>
          have hkv := (oe k _ h2).scal_inv hsc
          refine fin σ w ρ L es (es.push { key := kv, val := ρ x, born := clock }) (clock + 1) (bs ++ [clock]) (l ++ [(kv, xv)]) m hL hbk ?_ hmp hkv ?_ ?_ ?_
          · have hfk := run_findKey (P := P) hd h6 w
            unfold Instr.mapUpdate
            simp only [Sem.run_bind, run_underlying hu, Result.andThen_ok, run_getMap hbk, hck, hfk]
            unfold setObj
            simp only [Sem.run, hbk]
          · rw [List.map_append, Array.toList_push, List.map_append]
            exact h4.append (by have := oe k _ h2; rw [hkv] at this; exact this)
          · rw [List.map_append, Array.toList_push, List.map_append]
            exact h5.append (oe x _ h3)
          · rw [← h5b]; simp
      · cases hm
    · cases hm
  · cases hm
theorem mk_ptr0 {σ : Sg} {id : Nat} {L : Loc} (h : σ id = some L) (hb : L.base = 0) : VR σ (.pointer (some ⟨id, 0, none⟩)) (.pointer (some ⟨L.blk, 0, none⟩)) := by
  have := VRs.ptr (off := 0) h (VRs.nil (σ := σ))
  rw [hb] at this; exact this
theorem range_good {t : TypeId} {x : Operand} (ho : o.op = .range t x) (hm : mRange P h nx t (evO G e x) = .ok v h' nx') : Good P G o e h nx v h' nx' := by
  have fin : ∀ (σ : Sg) (w : World) (ob : Obj) (B : Bl), MR G σ h.get nx w → (∀ σ' : Sg, σ.le σ' → BR σ' ⟨w.heap.size, 0, 0⟩ (w.alloc ob) B) → ∃ σ', VR σ' (.pointer (some ⟨nx, 0, none⟩)) (.pointer (some ⟨w.heap.size, 0, none⟩)) ∧ Tr G σ h.get nx w σ' (h.put nx B).get (nx + 1) (w.alloc ob) := fun σ w ob B m hbr => by
    have := m.new (w' := w.alloc ob) ⟨w.heap.size, 0, 0⟩ B rfl ⟨rfl, rfl, rfl⟩ (by simp) (fun r hr => Below.heap_alloc w _ r hr) hbr
    rw [Tb.put_fun]
    exact ⟨_, mk_ptr0 (L := ⟨w.heap.size, 0, 0⟩) (by simp) rfl, this⟩
  unfold mRange at hm
  split at hm
  · rename_i s h1
    split at hm
    · rename_i hu
      obtain ⟨rfl, rfl, rfl⟩ := newB_inv hm
      intro σ w ρ oe m
      have hx := (oe x _ h1).scal_inv rfl
      obtain ⟨σ', h2, h3⟩ := fin σ w (.stringIter s 0) (.iter s 0) m (fun σ' _ => ⟨rfl, heap_alloc_new w _⟩)
      refine ⟨_, _, .inl ?_, σ', h2, h3⟩
      unfold execOp
      simp [ho, hx, Instr.range, run_underlying hu]
    · cases hm
  · rename_i h1
    split at hm
    · rename_i k el hu
      obtain ⟨rfl, rfl, rfl⟩ := newB_inv hm
      intro σ w ρ oe m
      have hx := (oe x _ h1).scal_inv rfl
      obtain ⟨σ', h2, h3⟩ := fin σ w (.mapIter none 0 #[] 0) (.miter none 0 [] 0) m (fun σ' _ => ⟨rfl, none, fun id h => (by cases h), fun _ => rfl, heap_alloc_new w _⟩)
      refine ⟨_, _, .inl ?_, σ', h2, h3⟩
      unfold execOp
      simp [ho, hx, Instr.range, run_underlying hu]
    · cases hm
  · rename_i id h1
    split at hm
    · rename_i k el cl bs l hu hb
      obtain ⟨rfl, rfl, rfl⟩ := newB_inv hm
      intro σ w ρ oe m
      obtain ⟨L, hL, hx⟩ := (oe x _ h1).map_inv
      obtain ⟨L', hL', es, hbk, _⟩ := m.blk id _ hb
      rw [hL] at hL'; injection hL' with hL'; subst hL'
      obtain ⟨σ', h2, h3⟩ := fin σ w (.mapIter (some L.blk) cl #[] cl) (.miter (some id) cl [] cl) m (fun σ' hs => ⟨rfl, some L.blk, fun id' h => (by injection h with h; subst h; exact ⟨L, hs _ _ hL, rfl⟩), fun h => (by cases h), heap_alloc_new w _⟩)
      refine ⟨_, _, .inl ?_, σ', h2, h3⟩
      have hg := run_getMap (P := P) hbk
      unfold execOp
      simp [ho, hx, Instr.range, run_underlying hu, hg]
    · cases hm
  · cases hm
theorem leftL_ok {σ : Sg} {seen : List Nat} : ∀ (bs : List Nat) (l : List (Value × Value)) (es : List MapEntry), VRs σ (l.map (·.1)) (es.map (·.key)) → VRs σ (l.map (·.2)) (es.map (·.val)) → es.map (·.born) = bs →
    ∃ es', es.filter (fun e => !seen.contains e.born) = es' ∧ VRs σ ((leftL seen bs l).map (·.2.1)) (es'.map (·.key)) ∧ VRs σ ((leftL seen bs l).map (·.2.2)) (es'.map (·.val)) ∧ es'.map (·.born) = (leftL seen bs l).map (·.1)
  | bs, [], es, h1, _, h3 => by
    have : es = [] := List.eq_nil_of_length_eq_zero (by have := h1.len; simpa using this.symm)
    subst this
    cases bs with
    | nil => exact ⟨[], rfl, .nil, .nil, rfl⟩
    | cons b bs => cases h3
  | bs, p :: l, [], h1, _, _ => by have := h1.len; simp at this
  | [], p :: l, en :: es, _, _, h3 => by cases h3
  | b :: bs, p :: l, en :: es, h1, h2, h3 => by
    simp only [List.map_cons, List.cons.injEq] at h3
    obtain ⟨y, ys, e1, h4, h5⟩ := h1.inv
    injection e1 with e1 e2; subst e1; subst e2
    obtain ⟨z, zs, e1, h6, h7⟩ := h2.inv
    injection e1 with e1 e2; subst e1; subst e2
    obtain ⟨es', h8, h9, h10, h11⟩ := leftL_ok (seen := seen) bs l es h5 h7 h3.2
    unfold leftL
    rw [List.filter_cons, h3.1, h8]
    cases hc : seen.contains b with
    | true => rw [bo_true]; exact ⟨es', by simp, h9, h10, h11⟩
    | false =>
      rw [bo_false]
      exact ⟨en :: es', by simp, .cons h4 h9, .cons h6 h10, by simp [h3.1, h11]⟩
theorem next_good {x : Operand} {b : Bool} (ho : o.op = .next x b) (hm : mNext h nx b (evO G e x) = .ok v h' nx') : Good P G o e h nx v h' nx' := by
  unfold mNext at hm
  simp only [putS_eq, listS_eq, natS_eq] at hm
  split at hm
  · rename_i id h1
    split at hm
    · rename_i s pos hb
      obtain ⟨hbt, hm⟩ := bo_inv hm (by simp)
      subst hbt
      have key : ∀ (σ : Sg) (w : World) (ρ : Operand → Value), OE σ G e ρ → MR G σ h.get nx w → ∃ L, σ id = some L ∧ ρ x = .pointer (some ⟨L.blk, 0, none⟩) ∧ w.heap[L.blk]? = some (.stringIter s pos) ∧ L.base = 0 := fun σ w ρ oe m => by
        obtain ⟨L, hL, hx⟩ := (oe x _ h1).ptr_inv
        obtain ⟨L', hL', hb0, hbk⟩ := m.blk id _ hb
        rw [hL] at hL'; injection hL' with hL'; subst hL'
        exact ⟨L, hL, by rw [hx, hb0], hbk, hb0⟩
      have hsz : s.size = s.data.toList.length := by obtain ⟨d⟩ := s; rfl
      cases hlt : Nat.blt pos s.data.toList.length with
      | true =>
        rw [hlt, bo_true] at hm
        obtain ⟨rfl, rfl, rfl⟩ := ok_inj hm
        have hlt := blt_lt hlt
        rw [← hsz] at hlt
        intro σ w ρ oe m
        obtain ⟨L, hL, hx, hbk, hb0⟩ := key σ w ρ oe m
        have hl : L.blk < w.heap.size := (Array.getElem?_eq_some_iff.1 hbk).1
        refine ⟨.tuple #[.bool true, goInt pos, .int .i32 (Utf8.decode s pos).1], { w with heap := w.heap.setIfInBounds L.blk (.stringIter s (pos + (Utf8.decode s pos).2)) }, .inl ?_, σ, ?_, ?_⟩
        · unfold execOp
          simp only [ho, hx, Instr.next, getObj, setObj, Sem.run_bind, Sem.run, hbk, Result.andThen_ok, hlt, if_true]
          rfl
        · exact .tuple (xs := [_, _, _]) (ys := [_, _, _]) (.cons VR.bool (.cons VR.int (.cons VR.int .nil))) .nil
        · rw [Tb.put_fun]
          exact m.upd hb hL ⟨hb0, by simp [hl]⟩ ⟨rfl, rfl, rfl⟩ (by simp) (fun r hr => by simp [Array.getElem?_setIfInBounds_ne (Ne.symm hr)])
      | false =>
        rw [hlt, bo_false] at hm
        obtain ⟨rfl, rfl, rfl⟩ := ok_inj hm
        have hlt : ¬ pos < s.size := fun hh => by
          rw [hsz] at hh
          have : Nat.blt pos s.data.toList.length = true := by rw [blt_dec]; simpa using hh
          rw [this] at hlt; cases hlt
        refine good_pure fun σ w ρ oe m => ?_
        obtain ⟨L, hL, hx, hbk, hb0⟩ := key σ w ρ oe m
        refine ⟨.tuple #[.bool false], .tuple (xs := [_]) (ys := [_]) VR.bool .nil, ?_⟩
        unfold execOp
        simp only [ho, hx, Instr.next, getObj, Sem.run_bind, Sem.run, hbk, Result.andThen_ok, hlt, if_false]
        rfl
    · rename_i since seen last hb
      cases b with
      | true => cases hm
      | false =>
        rw [bo_false] at hm
        obtain ⟨rfl, rfl, rfl⟩ := ok_inj hm
        refine good_pure fun σ w ρ oe m => ?_
        obtain ⟨L, hL, hx⟩ := (oe x _ h1).ptr_inv
        obtain ⟨L', hL', hb0, r, _, hr, hbk⟩ := m.blk id _ hb
        rw [hL] at hL'; injection hL' with hL'; subst hL'
        rw [hb0] at hx
        rw [hr rfl] at hbk
        refine ⟨.tuple #[.bool false], .tuple (xs := [_]) (ys := [_]) VR.bool .nil, ?_⟩
        unfold execOp
        simp only [ho, hx, Instr.next, getObj, Sem.run_bind, Sem.run, hbk, Result.andThen_ok]
        rfl
    · rename_i mid since seen last hb
      cases b with
      | true => cases hm
      | false =>
        rw [bo_false] at hm
        split at hm
        · rename_i cl bs l hmb
          cases hall : (!seen.isEmpty && (!bs.isEmpty && bs.all (fun b => Nat.ble last b))) with
          | true => rw [hall] at hm; cases hm
          | false =>
            rw [hall, bo_false] at hm
            have key : ∀ (σ : Sg) (w : World) (ρ : Operand → Value), OE σ G e ρ → MR G σ h.get nx w → ∃ (L L2 : Loc) (es : Array MapEntry), σ id = some L ∧ σ mid = some L2 ∧ ρ x = .pointer (some ⟨L.blk, 0, none⟩) ∧ w.heap[L.blk]? = some (.mapIter (some L2.blk) since ⟨seen⟩ last) ∧ L.base = 0 ∧ w.heap[L2.blk]? = some (.map es cl) ∧
                VRs σ (l.map (·.1)) (es.toList.map (·.key)) ∧ VRs σ (l.map (·.2)) (es.toList.map (·.val)) ∧ es.toList.map (·.born) = bs ∧ (!(⟨seen⟩ : Array Nat).isEmpty && !es.isEmpty && es.all (fun e => decide (e.born ≥ last))) = false := fun σ w ρ oe m => by
              obtain ⟨L, hL, hx⟩ := (oe x _ h1).ptr_inv
              obtain ⟨L', hL', hb0, r, hr, _, hbk⟩ := m.blk id _ hb
              rw [hL] at hL'; injection hL' with hL'; subst hL'
              obtain ⟨L2, hL2, rfl⟩ := hr mid rfl
              obtain ⟨L3, hL3, es, hbk2, k1, k2, k3⟩ := m.blk mid _ hmb
              rw [hL2] at hL3; injection hL3 with hL3; subst hL3
              refine ⟨L, L2, es, hL, hL2, by rw [hx, hb0], hbk, hb0, hbk2, k1, k2, k3, ?_⟩
              subst k3
              obtain ⟨el⟩ := es
              rw [← hall]
              have e1 : (⟨seen⟩ : Array Nat).isEmpty = seen.isEmpty := by cases seen <;> rfl
              have e2 : (⟨el⟩ : Array MapEntry).isEmpty = (el.map (·.born)).isEmpty := by cases el <;> rfl
              have e3 : (⟨el⟩ : Array MapEntry).all (fun e => decide (e.born ≥ last)) = (el.map (·.born)).all (fun b => Nat.ble last b) := by
                rw [← Array.all_toList, List.all_map]
                congr 1
                funext en
                show decide (last ≤ en.born) = Nat.ble last en.born
                cases hq : Nat.ble last en.born with
                | true => have := Nat.le_of_ble_eq_true hq; simp [this]
                | false => have : ¬ last ≤ en.born := fun hh => by rw [Nat.ble_eq_true_of_le hh] at hq; cases hq
                           simp [this]
              rw [e1, e2, e3, Bool.and_assoc]
            split at hm
            · rename_i hleft
              obtain ⟨rfl, rfl, rfl⟩ := ok_inj hm
              refine good_pure fun σ w ρ oe m => ?_
              obtain ⟨L, L2, es, hL, hL2, hx, hbk, hb0, hbk2, k1, k2, k3, k4⟩ := key σ w ρ oe m
              obtain ⟨es', g1, g2, g3, g4⟩ := leftL_ok (seen := seen) bs l es.toList k1 k2 k3
              rw [hleft] at g4
              have hes : es' = [] := by simpa using g4
              have hfil : es.filter (fun e => !(⟨seen⟩ : Array Nat).contains e.born) = #[] := by
                apply Array.ext'
                rw [Array.toList_filter]
                have : (es.toList.filter fun e => !(⟨seen⟩ : Array Nat).contains e.born) = es.toList.filter (fun e => !seen.contains e.born) := by simp
                rw [this, g1, hes]
              refine ⟨.tuple #[.bool false], .tuple (xs := [_]) (ys := [_]) VR.bool .nil, ?_⟩
              unfold execOp
              simp only [ho, hx, Instr.next, getObj, Sem.run_bind, Sem.run, hbk, hbk2, Result.andThen_ok, k4, Bool.false_eq_true, if_false, hfil]
              simp [Question.forced]
            · rename_i bb kk vv hleft
              obtain ⟨hlt, hm⟩ := bo_inv hm (by simp)
              have hlt := blt_lt hlt
              obtain ⟨rfl, rfl, rfl⟩ := ok_inj hm
              intro σ w ρ oe m
              obtain ⟨L, L2, es, hL, hL2, hx, hbk, hb0, hbk2, k1, k2, k3, k4⟩ := key σ w ρ oe m
              obtain ⟨es', g1, g2, g3, g4⟩ := leftL_ok (seen := seen) bs l es.toList k1 k2 k3
              rw [hleft] at g2 g3 g4
              obtain ⟨en, hes⟩ : ∃ en, es' = [en] := by
                cases es' with
                | nil => simp at g4
                | cons en es' => cases es' with
                  | nil => exact ⟨en, rfl⟩
                  | cons => simp at g4
              subst hes
              have hborn : en.born = bb := by simpa using g4
              have hfil : es.filter (fun e => !(⟨seen⟩ : Array Nat).contains e.born) = #[en] := by
                apply Array.ext'
                rw [Array.toList_filter]
                have : (es.toList.filter fun e => !(⟨seen⟩ : Array Nat).contains e.born) = es.toList.filter (fun e => !seen.contains e.born) := by simp
                rw [this, g1]
              have hl : L.blk < w.heap.size := (Array.getElem?_eq_some_iff.1 hbk).1
              refine ⟨.tuple #[.bool true, en.key, en.val], { w with heap := w.heap.setIfInBounds L.blk (.mapIter (some L2.blk) since ⟨seen ++ [bb]⟩ cl) }, .inl ?_, σ, ?_, ?_⟩
              · unfold execOp
                simp only [ho, hx, Instr.next, getObj, Sem.run_bind, Sem.run, hbk, hbk2, Result.andThen_ok, k4, Bool.false_eq_true, if_false, hfil]
                simp [Question.forced, hborn, hlt, setObj, Sem.run, hbk]
              · exact .tuple (xs := [_, _, _]) (ys := [_, _, _]) (.cons VR.bool (g2.append g3)) .nil
              · rw [Tb.put_fun]
                exact m.upd hb hL ⟨hb0, some L2.blk, fun i hi => by injection hi with hi; subst hi; exact ⟨L2, hL2, rfl⟩, fun hi => (by cases hi), by simp [hl]⟩ ⟨rfl, rfl, rfl⟩ (by simp) (fun r hr => by simp [Array.getElem?_setIfInBounds_ne (Ne.symm hr)])
            · cases hm
        · cases hm
    · cases hm
  · cases hm
end
end Go.Proofs.YtklciidffdnglaaDoor
