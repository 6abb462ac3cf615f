/- The machine that runs closed code: texts and bytes are turned, lengths, copy, append. Over any program. No condition. -/
import Derived.Test.YtklciidffdnglaaDoorKh
import Derived.Deep.AppendSrc
import Derived.Laws.AppendOwn
namespace Go.Proofs.YtklciidffdnglaaDoor
open Go.RowKit

section
variable {P : Program} {G : Nat} {o : Oper} {e : Tb Value} {h h' : Hp} {nx nx' : Nat} {v : Value}
theorem arr2 {α : Type} {a : Array α} {x y : α} (h : a.toList = [x, y]) : a = #[x, y] := by apply Array.ext'; simpa using h
theorem arr1 {α : Type} {a : Array α} {x : α} (h : a.toList = [x]) : a = #[x] := by apply Array.ext'; simpa using h
theorem byOf_ok : ∀ {l : List Value} {bs : List UInt8}, byOf l = some bs → ∃ ns : List Nat, l = ns.map (fun n => Value.int .u8 (.ofNat n)) ∧ bs = ns.map UInt8.ofNat
  | [], bs, hb => by injection hb with hb; subst hb; exact ⟨[], rfl, rfl⟩
  | x :: l, bs, hb => by
    unfold byOf at hb
    split at hb
    · rename_i hnil; cases hnil
    · rename_i n r heq
      injection heq with h1 h2; subst h1; subst h2
      split at hb
      · rename_i l' hl
        injection hb with hb; subst hb
        obtain ⟨ns, h3, h4⟩ := byOf_ok hl
        exact ⟨n :: ns, by rw [h3]; rfl, by rw [h4]; rfl⟩
      · cases hb
    · cases hb
theorem scals_eq {σ : Sg} : ∀ {l us : List Value}, (∀ x ∈ l, scal x = true) → VRs σ l us → us = l
  | [], us, _, hv => hv.inv_nil
  | x :: l, us, hs, hv => by
    obtain ⟨y, vs', rfl, h1, h2⟩ := hv.inv
    rw [h1.scal_inv (hs x (by simp)), scals_eq (fun x hx => hs x (by simp [hx])) h2]
theorem foldl_push : ∀ (ns : List Nat) (r : ByteArray), (ns.map (Int.ofNat)).foldl (fun r n => r.push (UInt8.ofNat n.toNat)) r = ⟨⟨r.data.toList ++ ns.map UInt8.ofNat⟩⟩
  | [], r => by obtain ⟨⟨d⟩⟩ := r; simp
  | n :: ns, r => by
    rw [List.map_cons, List.foldl_cons, foldl_push ns]
    obtain ⟨⟨d⟩⟩ := r
    simp
theorem conv_good {s d : TypeId} {x : Operand} (ho : o.op = .convert s d x) (hm : mConv P G e h nx o s d (evO G e x) = .ok v h' nx') : Good P G o e h nx v h' nx' := by
  have hsel : ∀ cs b, o.op ≠ .select cs b := fun cs b hh => by rw [ho] at hh; cases hh
  unfold mConv at hm
  split at hm
  · rename_i k n h1
    split at hm
    · rename_i k' hd
      split at hm
      · rename_i ds hs
        obtain ⟨rfl, rfl, rfl⟩ := ok_inj hm
        refine good_pure fun σ w ρ oe m => ⟨_, VR.int, ?_⟩
        have hx := (oe x _ h1).scal_inv rfl
        unfold execOp
        simp [ho, hx, convert, run_underlying hs, run_underlying hd, Conv.intToInt, wr_ok]
      · cases hm
    · exact flat_good hsel hm
  · rename_i b h1
    split at hm
    · rename_i el hs hd
      split at hm
      · rename_i hel
        obtain ⟨rfl, rfl, rfl⟩ := newB_inv hm
        intro σ w ρ oe m
        have hx := (oe x _ h1).scal_inv rfl
        have hrun := Lib.run_convert_string_bytes (P := P) w s d el b hs hd hel
        have hsz : b.size = b.data.toList.length := by obtain ⟨dd⟩ := b; rfl
        have hge := grownCap_ge w b.size 0 el
        have hcs : (Lib.bytesCells w el b).size = grownCap w b.size 0 el := by
          unfold Lib.bytesCells
          rw [Array.size_append, Array.size_map, Array.size_replicate]
          have : b.data.size = b.size := by obtain ⟨dd⟩ := b; rfl
          omega
        obtain ⟨σ', h5, h6, h7⟩ := m.newRowIn (w' := Lib.bytesWorld w el b) (cs := b.data.toList.map fun x => Value.int .u8 (.ofNat x.toNat)) (us := b.data.toList.map fun x => Value.int .u8 (.ofNat x.toNat)) el (Tb.of (b.data.toList.map fun x => Value.int .u8 (.ofNat x.toNat)))
          (VRs.of_get rfl fun i x hx => ⟨x, hx, by
            obtain ⟨y, _, rfl⟩ := List.mem_map.1 (List.mem_of_getElem? hx)
            exact VR.int⟩) (fun i => Tb.get_of _ i) (Lib.bytesWorld_at_new w el b) (fun i u hu => by
            have hi := (List.getElem?_eq_some_iff.1 hu).1
            rw [List.length_map] at hi
            unfold Lib.bytesCells
            rw [Array.getElem?_append_left (by rw [Array.size_map]; simpa using hi)]
            rw [List.getElem?_map] at hu
            simpa using hu) (by rw [List.length_map, hcs, ← hsz]; exact hge) (.inr (Nat.le_refl _)) ⟨rfl, rfl, rfl⟩ (Lib.bytesWorld_size w el b) (fun r hr => Lib.bytesWorld_at_old w el b r hr)
        rw [hcs] at h5
        rw [List.length_map] at h7
        refine ⟨.slice (some ⟨w.heap.size, 0, none⟩) b.size (grownCap w b.size 0 el), _, .inl ?_, σ', ?_, h7⟩
        · unfold execOp
          simp only [ho, hx, Sem.run_bind, hrun, Result.andThen_ok]
          rfl
        · rw [← hsz]
          exact .slo (L := ⟨w.heap.size, 0, grownCap w b.size 0 el⟩) h5 hge (by simp) .nil
      · cases hm
    · exact flat_good hsel hm
  · rename_i h1
    split at hm
    · rename_i el sz hs hd
      split at hm
      · rename_i hel
        obtain ⟨rfl, rfl, rfl⟩ := ok_inj hm
        obtain ⟨hu, _⟩ := slEl hs
        refine good_pure fun σ w ρ oe m => ⟨_, VR.str, ?_⟩
        have hx := (oe x _ h1).scal_inv rfl
        unfold execOp
        simp [ho, hx, convert, run_underlying hu, run_underlying hd, run_underlying hel, Conv.bytesToString]
        rfl
      · cases hm
    · cases hm
  · rename_i id off sp len cap h1
    split at hm
    · rename_i hsd
      split at hm
      · rename_i el sz bel n k c hs hb
        split at hm
        · rename_i hel
          obtain ⟨hk, hm⟩ := bo_inv hm (by simp)
          have hk := Nat.eq_of_beq_eq_true hk
          subst hk
          obtain ⟨rfl, rfl, rfl⟩ := ok_inj hm
          have hsd := Nat.eq_of_beq_eq_true hsd
          subst hsd
          obtain ⟨hu, _⟩ := slEl hs
          intro σ w ρ oe m
          obtain ⟨L, A, c', hL, hx, _⟩ := (oe x _ h1).slice_any
          obtain ⟨row, fz, r1, r2, r3, r4, r5, r6, r7⟩ := m.cells hb hL
          have hsh : w.shape? L.blk = some (bel, row.size) := by unfold World.shape?; rw [r1]
          have hrun : (convert s s (ρ x)).run P w = .ok (ρ x) (w.freeze ⟨L.blk, row.size, none⟩ 1) := by
            rw [hx]
            simp [convert, run_underlying hu, run_underlying hel, markStringish, hsh, Result.andThen]
          have hfb : (w.freeze ⟨L.blk, row.size, none⟩ 1).heap[L.blk]? = some (.cells row bel (if fz.1 == fz.2 then (row.size, row.size + 1) else (min fz.1 row.size, max fz.2 (row.size + 1)))) := by
            obtain ⟨lo, hi⟩ := fz
            simp [World.freeze, Array.getElem?_modify, r1]
          refine ⟨ρ x, w.freeze ⟨L.blk, row.size, none⟩ 1, .inl ?_, σ, oe x _ h1, ?_⟩
          · unfold execOp
            simp only [ho, Sem.run_bind, hrun, Result.andThen_ok]
            rfl
          · have ht := m.upd (B' := .cells bel n 0 c) (w' := w.freeze ⟨L.blk, row.size, none⟩ 1) hb hL ⟨row, _, hfb, r2, r3, r4, r5, fun _ => by
              cases hq : (fz.1 == fz.2) with
              | true => right; simp [r2]
              | false =>
                right
                have := r7 (by simp)
                rcases this with h9 | h9
                · rw [h9] at hq; simp at hq
                · simp; omega⟩ ⟨rfl, rfl, rfl⟩ (by simp [World.freeze]) (fun r hr => by
                  simp [World.freeze, Array.getElem?_modify, Ne.symm hr])
            have hfun : (fun i => if i = id then some (Bl.cells bel n 0 c) else h.get i) = h.get := by
              funext i
              by_cases e : i = id
              · subst e; rw [if_pos rfl, hb]
              · rw [if_neg e]
            rw [hfun] at ht
            exact ht
        · cases hm
      · cases hm
    · split at hm
      case h_2 => cases hm
      rename_i el sz bel n k c hs hd hb
      split at hm
      · rename_i l hel hl
        split at hm
        · rename_i bs hbs
          obtain ⟨rfl, rfl, rfl⟩ := ok_inj hm
          obtain ⟨hu, _⟩ := slEl hs
          refine good_pure fun σ w ρ oe m => ⟨_, VR.str, ?_⟩
          obtain ⟨L, A, c', hL, hx, hA⟩ := (oe x _ h1).slice_any
          obtain ⟨us, h2, h3, h4⟩ := m.ldN hb hL len off hl
          have h4 : w.rangeAt L.blk A us := by
            rcases hA with rfl | rfl
            · exact h4
            · obtain rfl : us = [] := List.eq_nil_of_length_eq_zero h3
              intro j u hu; simp at hu
          obtain ⟨ns, rfl, rfl⟩ := byOf_ok hbs
          have hus := scals_eq (fun x hx => by obtain ⟨y, _, rfl⟩ := List.mem_map.1 hx; rfl) h2
          subst hus
          have hload := rangeAt_loadCells (P := P) h4
          rw [h3] at hload
          have hrun := run_bytesToString (P := P) w ⟨L.blk, A, none⟩ len c' (ns.map Int.ofNat) (by rw [hload]; simp)
          rw [foldl_push] at hrun
          unfold execOp
          simp [ho, hx, convert, run_underlying hu, run_underlying hd, run_underlying hel, hrun]
        · cases hm
      · cases hm
  · exact flat_good hsel hm
theorem run_getMap {w : World} {r clock : Nat} {es : Array MapEntry} (hb : w.heap[r]? = some (.map es clock)) : (Go.getObj r).run P w = .ok (.map es clock) w := by
  unfold Go.getObj
  simp only [Sem.run, hb]
theorem len_good {t : TypeId} {x : Operand} (ho : o.op = .call { callee := .builtin .len, args := #[x], argTypes := #[t] }) (hm : mLen P h nx t (evO G e x) = .ok v h' nx') : Good P G o e h nx v h' nx' := by
  unfold mLen at hm
  split at hm
  · rename_i a n c h1
    split at hm
    · rename_i p ht
      obtain ⟨el, s⟩ := p
      obtain ⟨rfl, rfl, rfl⟩ := ok_inj hm
      obtain ⟨hu, _⟩ := slEl ht
      refine good_pure fun σ w ρ oe m => ⟨_, VR.int, ?_⟩
      have hx := oe x _ h1
      cases a with
      | none =>
        have hx := hx.scal_inv rfl
        unfold execOp
        simp [ho, hx, resolve, invoke, builtin, Builtin.len_, run_underlying hu, goInt]
      | some a =>
        obtain ⟨id, off, sp⟩ := a
        obtain ⟨L, A, c', hL, hx, _⟩ := hx.slice_any
        unfold execOp
        simp [ho, hx, resolve, invoke, builtin, Builtin.len_, run_underlying hu, goInt]
    · cases hm
  · rename_i s h1
    split at hm
    · rename_i hu
      obtain ⟨rfl, rfl, rfl⟩ := ok_inj hm
      refine good_pure fun σ w ρ oe m => ⟨_, VR.int, ?_⟩
      have hx := (oe x _ h1).scal_inv rfl
      unfold execOp
      simp [ho, hx, resolve, invoke, builtin, Builtin.len_, run_underlying hu, goInt]
    · cases hm
  · rename_i h1
    split at hm
    · rename_i k el hu
      obtain ⟨rfl, rfl, rfl⟩ := ok_inj hm
      refine good_pure fun σ w ρ oe m => ⟨_, VR.int, ?_⟩
      have hx := (oe x _ h1).scal_inv rfl
      unfold execOp
      simp [ho, hx, resolve, invoke, builtin, Builtin.len_, run_underlying hu, goInt]
    · cases hm
  · rename_i id h1
    split at hm
    · rename_i k el clock bs l hu hb
      obtain ⟨rfl, rfl, rfl⟩ := ok_inj hm
      refine good_pure fun σ w ρ oe m => ⟨_, VR.int, ?_⟩
      obtain ⟨L, hL, hx⟩ := (oe x _ h1).map_inv
      obtain ⟨L', hL', es, h2, h3, h4, h5⟩ := m.blk id _ hb
      rw [hL] at hL'; injection hL' with hL'; subst hL'
      have hlen : es.size = l.length := by have h9 := h3.len; rw [List.length_map, List.length_map, Array.length_toList] at h9; exact h9.symm
      have hg := run_getMap (P := P) h2
      have hrun : (Builtin.len_ #[t] o.type #[.map (some L.blk)]).run P w = .ok (.int .i64 (l.length : Int)) w := by
        unfold Builtin.len_
        simp only [List.getElem?_toArray, List.getElem?_cons_zero, Sem.run_bind, run_underlying hu, Result.andThen_ok, hg, hlen, goInt]
        rfl
      unfold execOp
      simp [ho, hx, resolve, invoke, builtin, hrun]
    · cases hm
  · rename_i x' h0 h01 h02 h03 h1
    split at hm
    · rename_i n el hu
      obtain ⟨rfl, rfl, rfl⟩ := ok_inj hm
      refine good_pure fun σ w ρ oe m => ⟨_, VR.int, ?_⟩
      unfold execOp
      simp [ho, resolve, invoke, builtin, Builtin.len_, run_underlying hu, goInt]
    · cases hm
  · cases hm
theorem copy_none {s n0 : Nat} {x : Value} {cs : List Value} (hs : srcCells h s (n0.min 0) x = some cs) : cs = [] := by
  rw [show n0.min 0 = 0 from Nat.min_eq_right (Nat.zero_le n0)] at hs
  unfold srcCells at hs
  split at hs
  · injection (bo_inv hs (by simp)).2 with hs; exact hs.symm
  · obtain ⟨_, hs⟩ := bo_inv hs (by simp)
    split at hs
    · have := ldN_length _ _ _ hs; exact List.eq_nil_of_length_eq_zero (by simpa using this)
    · injection (bo_inv hs (by simp)).2 with hs; exact hs.symm
  · injection (bo_inv hs (by simp)).2 with hs; subst hs; simp
  · cases hs
/-- What is appended or copied. -/
theorem src_ok {σ : Sg} {w : World} {s n : Nat} {x u : Value} {cs : List Value} (m : MR G σ h.get nx w) (hs : srcCells h s n x = some cs) (hx : VR σ x u) :
    ∃ us, VRs σ cs us ∧ us.length = cs.length ∧ (Builtin.firstCells s n u).run P w = .ok us.toArray w ∧ (Builtin.firstCells s n u).run P w.drew = .ok us.toArray w.drew ∧ ∀ k, lenV x = some k → (n = k → cs.length = n * s) ∧ ∀ w', (Builtin.lenOf u).run P w' = .ok k w' := by
  unfold srcCells at hs
  split at hs
  · rename_i l c
    obtain ⟨hn, hs⟩ := bo_inv hs (by simp)
    injection hs with hs; subst hs
    have hn := Nat.eq_of_beq_eq_true hn; subst hn
    have := hx.scal_inv rfl; subst this
    refine ⟨[], .nil, rfl, rfl, rfl, fun k hk => ?_⟩
    injection hk with hk; subst hk
    exact ⟨fun _ => by simp, fun _ => rfl⟩
  · rename_i id off sp l c
    obtain ⟨hnl, hs⟩ := bo_inv hs (by simp)
    have hnl := Nat.le_of_ble_eq_true hnl
    obtain ⟨L, A, c', hL, hu, hA⟩ := hx.slice_any
    subst hu
    split at hs
    · rename_i el m' k tb hb
      obtain ⟨us, h2, h3, h4⟩ := m.ldN hb hL (n * s) off hs
      have h4 : w.rangeAt L.blk A us := by
        rcases hA with rfl | rfl
        · exact h4
        · obtain rfl : n = 0 := by omega
          obtain rfl : us = [] := List.eq_nil_of_length_eq_zero (by simpa using h3)
          intro j u hu; simp at hu
      have hcells : ∀ w' : World, w'.heap = w.heap → (Builtin.firstCells s n (.slice (some ⟨L.blk, A, none⟩) l c')).run P w' = .ok us.toArray w' := fun w' hw' =>
        run_firstCells_some w' s n _ l c' us h3 (fun j u hu => by
          rw [Addr.add_mid, World.cell?_of_block (w := w) (by rw [hw'])]; exact h4 j u hu)
      refine ⟨us, h2, h2.len.symm, hcells w rfl, hcells w.drew rfl, fun k hk => ?_⟩
      injection hk with hk; subst hk
      exact ⟨fun _ => ldN_length _ _ _ hs, fun _ => rfl⟩
    · obtain ⟨hn, hs⟩ := bo_inv hs (by simp)
      injection hs with hs; subst hs
      have hn := Nat.eq_of_beq_eq_true hn; subst hn
      refine ⟨[], .nil, rfl, ?_, ?_, fun k hk => ?_⟩
      · exact run_firstCells_some w s 0 _ l c' [] (by simp) (by simp)
      · exact run_firstCells_some w.drew s 0 _ l c' [] (by simp) (by simp)
      · injection hk with hk; subst hk
        exact ⟨fun _ => by simp, fun _ => rfl⟩
  · rename_i b
    obtain ⟨hs1, hs⟩ := bo_inv hs (by simp)
    have hs1 := Nat.eq_of_beq_eq_true hs1; subst hs1
    injection hs with hs; subst hs
    have := hx.scal_inv rfl; subst this
    have hsz : b.size = b.data.toList.length := by obtain ⟨d⟩ := b; rfl
    have hf : ∀ w' : World, (Builtin.firstCells 1 n (.string b)).run P w' = .ok ((b.data.toList.take n).map fun x => Value.int .u8 (.ofNat x.toNat)).toArray w' := fun w' => by
      have : (b.extract 0 n).data.map (fun b => Value.int .u8 b.toNat) = ((b.data.toList.take n).map fun x => Value.int .u8 (.ofNat x.toNat)).toArray := by
        apply Array.ext'
        rw [Array.toList_map, Lib.extract_data]
        simp
      simp only [Builtin.firstCells, this]
      rfl
    refine ⟨_, VRs.of_get rfl fun i x hx => ⟨x, hx, ?_⟩, rfl, hf w, hf w.drew, fun k hk => ?_⟩
    · obtain ⟨y, _, rfl⟩ := List.mem_map.1 (List.mem_of_getElem? hx)
      exact VR.int
    · injection hk with hk; subst hk
      refine ⟨fun hn => by subst hn; simp, fun w' => ?_⟩
      simp only [Builtin.lenOf, hsz]; rfl
  · cases hs
theorem clear_good {x : Operand} {t : TypeId} (ho : o.op = .call { callee := .builtin .clear, args := #[x], argTypes := #[t] }) (hm : mClear P h nx t (evO G e x) = .ok v h' nx') : Good P G o e h nx v h' nx' := by
  unfold mClear at hm
  split at hm
  · rename_i id off sp n c h1
    split at hm
    · rename_i el s ht
      split at hm
      · rename_i z hz
        obtain ⟨hc, hm⟩ := bo_inv hm (by simp)
        simp only [Bool.and_eq_true] at hc
        have hn := blt_lt hc.1
        have hzl := blt_lt hc.2
        split at hm
        · rename_i h2' hw
          obtain ⟨rfl, rfl, rfl⟩ := ok_inj hm
          obtain ⟨hu, i, hi, his⟩ := slEl ht
          obtain ⟨i2, hi2, hiz, hfl⟩ := zeroTy_info hz
          intro σ w ρ oe m
          obtain ⟨L, c', hL, hd⟩ := (oe x _ h1).slice_inv hn
          obtain ⟨hrun, htr⟩ := m.write (P := P) hw hL (((VR.of_flat (σ := σ) hfl).cells).zeros n)
          have hzc : (Builtin.zeroCells z.cells n).toList = zerosN z.cells.toList n := by
            unfold Builtin.zeroCells
            rw [made_eq _ _ (by simpa using hzl)]
          obtain ⟨n', rfl⟩ : ∃ n', n = n' + 1 := ⟨n - 1, by omega⟩
          refine ⟨.tuple ⟨[]⟩, _, .inl ?_, σ, .tuple .nil .nil, htr⟩
          unfold execOp
          simp [ho, hd, resolve, invoke, builtin, Builtin.clear_, run_underlying hu, zeroValue, typeInfo, hi2, hiz, hzc, hrun]
        · cases hm
      · cases hm
    · cases hm
  · cases hm
theorem copy_good {d x : Operand} {t t' : TypeId} (ho : o.op = .call { callee := .builtin .copy, args := #[d, x], argTypes := #[t, t'] }) (hm : mCopy P h nx t (evO G e d) (evO G e x) = .ok v h' nx') : Good P G o e h nx v h' nx' := by
  unfold mCopy at hm
  split at hm
  · rename_i a dl dc x' h1 h2
    split at hm
    · rename_i el s n0 ht hl
      split at hm
      · rename_i vs hs
        have hmin : bo (Nat.ble n0 dl) n0 dl = Nat.min n0 dl := by
          cases hb : Nat.ble n0 dl with
          | true => rw [bo_true]; exact (Nat.min_eq_left (Nat.le_of_ble_eq_true hb)).symm
          | false =>
            rw [bo_false]
            have : ¬ n0 ≤ dl := fun hh => by rw [Nat.ble_eq_true_of_le hh] at hb; cases hb
            exact (Nat.min_eq_right (by omega)).symm
        rw [hmin] at hm hs
        obtain ⟨hu, i, hi, his⟩ := slEl ht
        subst his
        have fin : ∀ (σ : Sg) (w w' : World) (ρ : Operand → Value) (base : Option Addr) (c : Nat) (us : List Value), ρ d = .slice base dl c → (Builtin.lenOf (ρ x)).run P w = .ok n0 w → (Builtin.firstCells i.size (Nat.min n0 dl) (ρ x)).run P w = .ok us.toArray w →
            (∀ a, base = some a → (storeCells a us).run P w = .ok () w') → (base = none → w' = w) → (execOp ρ o).run P w = .ok (.value (.int .i64 (.ofNat (Nat.min n0 dl)))) w' := by
          intro σ w w' ρ base c us hd hl hf hst hn
          unfold execOp
          cases base with
          | none =>
            rw [hn rfl]
            simp [ho, hd, resolve, invoke, builtin, Builtin.copy_, run_underlying hu, hl, sizeOf, typeInfo, hi, hf, goInt]
          | some a => simp [ho, hd, resolve, invoke, builtin, Builtin.copy_, run_underlying hu, hl, sizeOf, typeInfo, hi, hf, hst a rfl, goInt]
        split at hm
        · rename_i id off sp
          cases hempty : vs.isEmpty with
          | true =>
            rw [hempty, bo_true] at hm
            obtain ⟨rfl, rfl, rfl⟩ := ok_inj hm
            refine good_pure fun σ w ρ oe m => ⟨_, VR.int, ?_⟩
            obtain ⟨L, A, c', hL, hd, _⟩ := (oe d _ h1).slice_any
            obtain ⟨us, h3, h4, h5, h6, h7⟩ := src_ok (P := P) m hs (oe x _ h2)
            have : us = [] := List.eq_nil_of_length_eq_zero (by rw [h4]; simpa using hempty)
            subst this
            exact fin σ w w ρ _ c' [] hd ((h7 n0 hl).2 w) h5 (fun a _ => rfl) (fun _ => rfl)
          | false =>
            rw [hempty, bo_false] at hm
            split at hm
            · rename_i h2' hw
              obtain ⟨rfl, rfl, rfl⟩ := ok_inj hm
              intro σ w ρ oe m
              obtain ⟨us, h3, h4, h5, h6, h7⟩ := src_ok (P := P) m hs (oe x _ h2)
              obtain ⟨L, c', hL, hd⟩ := (oe d _ h1).slice_inv (by
                rcases Nat.eq_zero_or_pos dl with h0 | h0
                · subst h0
                  exfalso
                  have hz := copy_none hs
                  rw [hz] at hempty; cases hempty
                · exact h0)
              obtain ⟨hrun, htr⟩ := m.write (P := P) hw hL h3
              exact ⟨_, _, .inl (fin σ w _ ρ _ c' us hd ((h7 n0 hl).2 w) h5 (fun a ha => by injection ha with ha; subst ha; exact hrun) (fun hh => by cases hh)), σ, VR.int, htr⟩
            · cases hm
        · obtain ⟨hempty, hm⟩ := bo_inv hm (by simp)
          obtain ⟨rfl, rfl, rfl⟩ := ok_inj hm
          refine good_pure fun σ w ρ oe m => ⟨_, VR.int, ?_⟩
          have hd := (oe d _ h1).scal_inv rfl
          obtain ⟨us, h3, h4, h5, h6, h7⟩ := src_ok (P := P) m hs (oe x _ h2)
          exact fin σ w w ρ _ _ us hd ((h7 n0 hl).2 w) h5 (fun a ha => by cases ha) (fun _ => rfl)
      · cases hm
    · cases hm
  · cases hm
end
end Go.Proofs.YtklciidffdnglaaDoor
