/- An entry is taken out of a map; a text's bytes; payload; stands. No condition. -/
import Derived.Test.YthdlljlcffokbaaDoorZCr3
import Derived.Lib.ConvBytes
namespace Go.Proofs.YthdlljlcffokbaaDoor
open Go.RowKit

def del (f : Int → Option Value) (k : Int) : Int → Option Value := fun x => if x = k then none else f x
theorem MiOk.erase {es : Array MapEntry} {clock j : Nat} {f : Int → Option Value} (h : MiOk es clock f) {k : Int} {en : MapEntry} (hj : es[j]? = some en) (hk : en.key = ik k) : MiOk (es.eraseIdxIfInBounds j) clock (del f k) := by
  have hlt := (Array.getElem?_eq_some_iff.1 hj).1
  have htl : (es.eraseIdxIfInBounds j).toList = es.toList.eraseIdx j := by
    unfold Array.eraseIdxIfInBounds
    rw [dif_pos hlt]
    simp
  have hmem : ∀ e, e ∈ es.toList.eraseIdx j ↔ ∃ i, i ≠ j ∧ es.toList[i]? = some e := fun e => List.mem_eraseIdx_iff_getElem?
  have hjl : es.toList[j]? = some en := by simpa using hj
  have hne : ∀ {e i}, i ≠ j → es.toList[i]? = some e → e.key ≠ ik k := fun {e i} hij hi e1 => by
    have hl1 := (List.getElem?_eq_some_iff.1 hi).1
    have e2 : (es.toList.map (·.key))[i]? = (es.toList.map (·.key))[j]? := by
      rw [List.getElem?_map, List.getElem?_map, hi, hjl]; simp [e1, hk]
    exact hij ((List.getElem?_inj (by simpa using hl1) h.nodup).1 e2)
  refine ⟨?_, ?_, ?_, ?_, ?_⟩
  · intro e he
    rw [htl, hmem] at he
    obtain ⟨i, hij, hi⟩ := he
    obtain ⟨k', h1, h2⟩ := h.keys e (List.mem_of_getElem? hi)
    refine ⟨k', h1, ?_⟩
    unfold del
    rw [if_neg (fun (e' : k' = k) => hne hij hi (by rw [h1, e'])), h2]
  · intro k' v hv
    unfold del at hv
    split at hv
    · cases hv
    · rename_i hk'
      obtain ⟨e, he, h1⟩ := h.all k' v hv
      obtain ⟨i, hi⟩ := List.getElem?_of_mem he
      refine ⟨e, ?_, h1⟩
      rw [htl, hmem]
      refine ⟨i, fun e1 => ?_, hi⟩
      subst e1
      rw [hjl] at hi
      injection hi with hi
      subst hi
      rw [hk] at h1
      exact hk' (ik_inj h1).symm
  · rw [htl]; exact h.nodup.sublist ((List.eraseIdx_sublist _ _).map _)
  · rw [htl]; exact h.born.sublist ((List.eraseIdx_sublist _ _).map _)
  · intro e he
    rw [htl] at he
    exact h.old e ((List.eraseIdx_sublist _ _).subset he)
section
variable {P : Program} {w : World} {o : Oper}
theorem does_delI {ρ : Operand → Value} {t kt el : TypeId} {q : IntKind} {mp i : Operand} {g : Nat} {k : Int} {f : Int → Option Value} {ts : Array TypeId} (ho : o.op = .call { callee := .builtin .delete, args := #[mp, i], argTypes := ts }) (hts : ts[0]? = some t) (hm : ρ mp = .map (some g)) (hi : ρ i = .int .i64 k) (hu : P.underlying t = some (.map kt el)) (hd : P.underlying kt = some (.int q))
    (hM : Mi w g f) : Does P ρ o w fun _ w' => Fr (fun b => b = g) w w' ∧ Mi w' g (del f k) := by
  obtain ⟨es, clock, hb, hes⟩ := hM
  have hlt : g < w.heap.size := (Array.getElem?_eq_some_iff.1 hb).1
  have hi' : ρ i = ik k := hi
  have hfr : ∀ es', Fr (fun b => b = g) w { w with heap := w.heap.setIfInBounds g (.map es' clock) } := fun es' => ⟨rfl, rfl, rfl, by simp, fun r _ hn => by simp [Array.getElem?_setIfInBounds_ne (Ne.symm hn)]⟩
  rcases hes.find q k with ⟨a1, a2⟩ | ⟨j, en, hen, hkey, a1, a2⟩
  · refine ⟨.tuple #[], { w with heap := w.heap.setIfInBounds g (.map es clock) }, .inl ?_, hfr _, es, clock, by simp [hlt], ?_⟩
    · unfold execOp
      simp [ho, resolve, invoke, builtin, Builtin.delete_, hts, run_underlying hu, hm, hi', run_getMi hb, run_checkI hd, run_findI hd a2]
      unfold setObj
      simp only [Sem.run, hb]
      rfl
    · have : del f k = f := by funext x; unfold del; split; (rename_i e; rw [e, a1]); rfl
      rw [this]; exact hes
  · refine ⟨.tuple #[], { w with heap := w.heap.setIfInBounds g (.map (es.eraseIdxIfInBounds j) clock) }, .inl ?_, hfr _, es.eraseIdxIfInBounds j, clock, by simp [hlt], hes.erase hen hkey⟩
    unfold execOp
    simp [ho, resolve, invoke, builtin, Builtin.delete_, hts, run_underlying hu, hm, hi', run_getMi hb, run_checkI hd, run_findI hd a2]
    unfold setObj
    simp only [Sem.run, hb]
    rfl
theorem does_strB {ρ : Operand → Value} {x : Operand} {s d el : TypeId} {l : List UInt8} (ho : o.op = .convert s d x) (hx : ρ x = str l) (hs : P.underlying s = some .string) (hd : P.underlying d = some (.slice el)) (he : P.underlying el = some (.int .u8)) :
    Does P ρ o w fun v w' => ∃ g c, v = .slice (some ⟨g, 0, none⟩) l.length c ∧ w.heap.size ≤ g ∧ g < w'.heap.size ∧ Rd w' (some ⟨g, 0, none⟩) l.length (bvs l) ∧ Fr0 w w' := by
  have hsz : (ByteArray.mk l.toArray).size = l.length := by show l.toArray.size = _; simp
  have hrun := Lib.run_convert_string_bytes (P := P) w s d el ⟨l.toArray⟩ hs hd he
  refine ⟨.slice (some ⟨w.heap.size, 0, none⟩) l.length (grownCap w l.length 0 el), Lib.bytesWorld w el ⟨l.toArray⟩, .inl ?_, w.heap.size, grownCap w l.length 0 el, rfl, Nat.le_refl _, ?_, ⟨bvs_length l, fun _ => ⟨_, _, rfl, fun j u hu => ?_⟩⟩, ⟨rfl, rfl, rfl, ?_, fun k hk _ => Lib.bytesWorld_at_old w el _ k hk⟩⟩
  · unfold execOp
    simp only [ho, hx, str, Sem.run_bind, hrun, Result.andThen_ok]
    rw [hsz]; rfl
  · rw [Lib.bytesWorld_size]; omega
  · have hj : j < l.length := by have := (List.getElem?_eq_some_iff.1 hu).1; rwa [bvs_length] at this
    rw [Nat.zero_add, Lib.bytesWorld_cell w el _ j (by rw [hsz]; exact hj), ← hu, bvs_getElem?, List.getElem?_eq_getElem hj]
    simp [bv, List.getD, hj]
  · rw [Lib.bytesWorld_size]; omega
end
/-- What payload tells. -/
def payl (c : UInt8) (n k : Nat) : List UInt8 := [c, UInt8.ofNat n, UInt8.ofNat k, c, c]
theorem payload_ok (c : UInt8) (n k : Nat) (w : World) : Calls Tryd.prog 13 #[.int .u8 (c.toNat : Int), .int .i64 (n : Int), .int .i64 (k : Int)] w fun e w' => e = .returned (str (payl c n k)) ∧ Fr0 w w' := by
  have e1 : IntKind.u8.wrap (n : Int) = ((UInt8.ofNat n).toNat : Int) := u8_wrap n
  have e2 : IntKind.u8.wrap (k : Int) = ((UInt8.ofNat k).toNat : Int) := u8_wrap k
  refine sx_enter (vs := [_, _, _]) Tryd.func13 rfl Tryd.ntmps13 rfl ?_
  refine sx_seq ?_
  refine sx_region ?_
  refine sxl_y (wn_none rfl) rfl rfl (yp rfl) ?_
  refine sxl_nil ?_
  refine qx_seq ?_
  refine sx_seq ?_
  refine sx_region ?_
  refine sxl_y (wn_none rfl) rfl rfl (yp rfl) ?_
  refine sxl_y (wn_none rfl) rfl rfl (yp rfl) ?_
  refine sxl_y (wn_none rfl) rfl rfl (y_convInt rfl rfl Tryd.underlying3 Tryd.underlying5 e1) ?_
  refine sxl_y (wn_none rfl) rfl rfl (yp rfl) ?_
  refine sxl_y (wn_none rfl) rfl rfl (y_convInt rfl rfl Tryd.underlying3 Tryd.underlying5 e2) ?_
  refine sxl_y (wn_none rfl) rfl rfl (yp rfl) ?_
  refine sxl_y (wn_none rfl) rfl rfl (yp rfl) ?_
  refine sxl_does (some 14) (wn_none rfl) rfl rfl (fun ρ hρ => does_slice (bvs (payl c n k)) (.int .u8 0) hρ rfl rfl rfl rfl Tryd.underlying39 (size := 1) (by kernel_rfl) (by decide) (by decide) (by simp [payl, bvs, bv, Value.cells])) ?_
  rintro _ w1 ⟨g, rfl, hg1, hg2, hb1, hf1⟩
  have hb1 : Blk w1 g 5 (bvs (payl c n k)) := hb1
  refine sxl_y (wn_none rfl) rfl rfl (y_bstr rfl rfl Tryd.underlying39 Tryd.underlying5 Tryd.underlying9 (Rd.ofBlk hb1 (n := 5) rfl)) ?_
  refine sxl_y (wn_none rfl) rfl rfl (yp rfl) ?_
  refine sxl_nil ?_
  refine qx_seq ?_
  refine sx_ret ?_
  refine qx_ret1 rfl rfl ?_
  exact ⟨rfl, hf1⟩
def strs (f : Pgs) : Int → Option Value := fun k => (f k).map str
section
variable {w : World} {Q : PL} {p : PS} {s : DS}
set_option maxHeartbeats 8000000 in
theorem stands_any (h : PgAt w Q p s) (hpg : p.pages * 4 ≤ s.lasts.length) (root r : Int) (m : Nat) (f : Pgs) (hm : Mi w m (strs f)) :
    Calls Tryd.prog 20 #[.pointer (some ⟨Q.gp, 0, none⟩), .int .i64 root, .agg #[.int .i64 r, .map (some m)]] w fun e w' => ∃ b, e = .returned (.bool b) ∧ Fr0 w w' ∧ (root = r → (∀ n t, f n = some t → p.readA s n = (0, t)) → b = true) := by
  refine sx_enter (vs := [_, _, _]) Tryd.func20 rfl Tryd.ntmps20 rfl ?_
  refine sx_seq ?_
  refine sx_region ?_
  refine sxl_does (some 5) (wn_none rfl) rfl rfl (fun ρ hρ => does_box 38 (.tmp 2) rfl [.int .i64 r, .map (some m)] (by rw [hρ _ _ rfl]; rfl)) ?_
  rintro _ w1 ⟨g5, rfl, hg1, hg2, hb1, hf1⟩
  have c0 : Cell w1.heap g5 0 (.int .i64 r) := hb1.c 0 rfl
  have c1 : Cell w1.heap g5 1 (.map (some m)) := hb1.c 1 rfl
  by_cases hr : root = r
  case neg =>
    refine sxl_y (wn_none rfl) rfl rfl (yp rfl) ?_
    refine sxl_nil ?_
    refine qx_seq ?_
    refine sx_seq ?_
    refine sx_seq ?_
    refine sx_region ?_
    refine sxl_y (wn_none rfl) rfl rfl (yp rfl) ?_
    refine sxl_y (wn_none rfl) rfl rfl (yp rfl) ?_
    refine sxl_y (wn_none rfl) rfl rfl (y_load rfl rfl (sc rfl) (by assumption)) ?_
    refine sxl_y (wn_none rfl) rfl rfl (y_neq_t rfl rfl rfl (by omega)) ?_
    refine sxl_nil ?_
    refine qx_seq ?_
    refine sx_true rfl ?_
    refine sx_seq ?_
    refine sx_region ?_
    refine sxl_y (wn_none rfl) rfl rfl (yp rfl) ?_
    refine sxl_nil ?_
    refine qx_seq ?_
    refine sx_ret ?_
    refine qx_then_ret ?_
    refine qx_ret1 rfl rfl ?_
    exact ⟨false, rfl, hf1, fun e => absurd e hr⟩
  subst hr
  have hlt := hm.lt
  refine sxl_y (wn_none rfl) rfl rfl (yp rfl) ?_
  refine sxl_nil ?_
  refine qx_seq ?_
  refine sx_seq ?_
  refine sx_seq ?_
  refine sx_region ?_
  refine sxl_y (wn_none rfl) rfl rfl (yp rfl) ?_
  refine sxl_y (wn_none rfl) rfl rfl (yp rfl) ?_
  refine sxl_y (wn_none rfl) rfl rfl (y_load rfl rfl (sc rfl) (by assumption)) ?_
  refine sxl_y (wn_none rfl) rfl rfl (y_neq_f rfl rfl rfl (by omega)) ?_
  refine sxl_nil ?_
  refine qx_seq ?_
  refine sx_false rfl ?_
  refine sx_skip ?_
  refine qx_seq ?_
  refine sx_seq ?_
  refine sx_seq ?_
  refine sx_region ?_
  refine sxl_y (wn_none rfl) rfl rfl (yp rfl) ?_
  refine sxl_y (wn_none rfl) rfl rfl (y_load rfl rfl (sc rfl) (by assumption)) ?_
  refine sxl_does (some 17) (wn_none rfl) rfl rfl (fun ρ hρ => does_rangeI rfl (hρ _ _ rfl) Tryd.underlying36 (hm.fr hf1 (fun hh => hh))) ?_
  rintro _ w2 ⟨r17, n, rfl, hr1, hr2, hR, hf2⟩
  have hf12 := hf1.trans hf2
  have hz1 := hf1.size
  refine sxl_nil ?_
  refine qx_seq ?_
  refine sx_block ?_
  refine sx_loop (fun e wr m' => ∃ (todo : Int → Bool) (n' : Nat), e = [(17, .pointer (some ⟨r17, 0, none⟩)), (0, .pointer (some ⟨Q.gp, 0, none⟩))] ∧ MiR wr m r17 (strs f) todo n' ∧ Fr (fun b => b = r17) w2 wr ∧ m' = n')
    ⟨_, n, rfl, hR, Fr.refl, rfl⟩ ⟨rfl, rfl, trivial⟩ ?_
  rintro _ wr _ ⟨todo, n', rfl, hR, hfr, rfl⟩
  refine sx_seq ?_
  refine sx_region ?_
  refine sxl_does (some 18) (wn_none rfl) rfl rfl (fun ρ hρ => does_nextI rfl (hρ _ _ rfl) hR) ?_
  rintro _ w3 (⟨rfl, rfl, h0, hall⟩ | ⟨k, u, n2, rfl, hk, htk, hn2, hR2, hC, hf3, hsz⟩)
  · refine sxl_y (wn_none rfl) rfl rfl (yp rfl) ?_
    refine sxl_nil ?_
    refine qx_seq ?_
    refine sx_seq ?_
    refine sx_false rfl ?_
    refine sx_exit ?_
    refine qx_then_exit ?_
    refine qx_then_exit ?_
    refine qx_block_hit ?_
    refine qx_seq ?_
    refine sx_seq ?_
    refine sx_region ?_
    refine sxl_y (wn_none rfl) rfl rfl (yp rfl) ?_
    refine sxl_nil ?_
    refine qx_seq ?_
    refine sx_ret ?_
    refine qx_ret1 rfl rfl ?_
    exact ⟨true, rfl, hf12.step hfr (fun b hb e => by omega), fun _ _ => rfl⟩
  obtain ⟨t, ht, rfl⟩ : ∃ t, f k = some t ∧ str t = u := by
    unfold strs at hk
    cases hfk : f k with
    | none => rw [hfk] at hk; cases hk
    | some t => rw [hfk] at hk; injection hk with hk; exact ⟨t, rfl, hk⟩
  have hf03 : Fr0 w w3 := (hf12.step hfr (fun b hb e => by omega)).step hf3 (fun b hb e => by omega)
  have hread := pRead_any (h.fr0 hf03) k hpg
  generalize hra : p.readA s k = ra at hread
  obtain ⟨e0, l⟩ := ra
  refine sxl_y (wn_none rfl) rfl rfl (yp rfl) ?_
  refine sxl_nil ?_
  refine qx_seq ?_
  refine sx_seq ?_
  refine sx_true rfl ?_
  refine sx_skip ?_
  refine qx_seq ?_
  refine sx_block ?_
  refine sx_seq ?_
  refine sx_region ?_
  refine sxl_y (wn_none rfl) rfl rfl (y_entryI rfl rfl hC) ?_
  refine sxl_y (wn_none rfl) rfl rfl (yp rfl) ?_
  refine sxl_y (wn_none rfl) rfl rfl (yp rfl) ?_
  refine sxl_y (wn_none rfl) rfl rfl (yp rfl) ?_
  refine sxl_y (wn_none rfl) rfl rfl (yp rfl) ?_
  refine sxl_nil ?_
  refine qx_seq ?_
  refine sx_seq ?_
  refine sx_region ?_
  refine sxl_y (wn_none rfl) rfl rfl (yp rfl) ?_
  refine sxl_y (wn_none rfl) rfl rfl (yp rfl) ?_
  refine sxl_call (some 26) (by first | exact wn_none rfl | exact wn_on rfl rfl rfl) rfl rfl (yc_call rfl rfl Tryd.call30) (hread) ?_
  rintro _ w4 ⟨v, rfl, ho, hf4⟩
  refine ⟨_, rfl, ?_⟩
  have hf04 := hf03.trans hf4
  have ho : w4.ownsRow w3.heap.size 5 1 v l.length (bvs l) := ho
  obtain ⟨A, c, rfl, _, _, hrd, _⟩ := own_form ho
  by_cases he : e0 = 0
  case neg =>
    refine sxl_y (wn_none rfl) rfl rfl (yp rfl) ?_
    refine sxl_y (wn_none rfl) rfl rfl (yp rfl) ?_
    refine sxl_y (wn_none rfl) rfl rfl (yp rfl) ?_
    refine sxl_y (wn_none rfl) rfl rfl (yp rfl) ?_
    refine sxl_y (wn_none rfl) rfl rfl (yp rfl) ?_
    refine sxl_nil ?_
    refine qx_seq ?_
    refine sx_seq ?_
    refine sx_region ?_
    refine sxl_y (wn_none rfl) rfl rfl (yp rfl) ?_
    refine sxl_y (wn_none rfl) rfl rfl (y_neq_t rfl rfl rfl (by omega)) ?_
    refine sxl_y (wn_none rfl) rfl rfl (yp rfl) ?_
    refine sxl_off rfl rfl rfl rfl rfl rfl ?_
    refine sxl_off rfl rfl rfl rfl rfl rfl ?_
    refine sxl_off rfl rfl rfl rfl rfl rfl ?_
    refine sxl_off rfl rfl rfl rfl rfl rfl ?_
    refine sxl_y (wn_none rfl) rfl rfl (yp rfl) ?_
    refine sxl_nil ?_
    refine qx_seq ?_
    refine sx_true rfl ?_
    refine sx_seq ?_
    refine sx_region ?_
    refine sxl_y (wn_none rfl) rfl rfl (yp rfl) ?_
    refine sxl_nil ?_
    refine qx_seq ?_
    refine sx_ret ?_
    refine qx_block_ret ?_
    refine qx_then_ret ?_
    refine qx_block_ret ?_
    refine qx_then_ret ?_
    refine qx_ret1 rfl rfl ?_
    exact ⟨false, rfl, hf04, fun _ hall => by
      have := hall k t ht
      rw [hra] at this
      injection this with h1 _
      exact absurd h1 he⟩
  subst he
  by_cases hlt' : l = t
  case neg =>
    refine sxl_y (wn_none rfl) rfl rfl (yp rfl) ?_
    refine sxl_y (wn_none rfl) rfl rfl (yp rfl) ?_
    refine sxl_y (wn_none rfl) rfl rfl (yp rfl) ?_
    refine sxl_y (wn_none rfl) rfl rfl (yp rfl) ?_
    refine sxl_y (wn_none rfl) rfl rfl (yp rfl) ?_
    refine sxl_nil ?_
    refine qx_seq ?_
    refine sx_seq ?_
    refine sx_region ?_
    refine sxl_y (wn_none rfl) rfl rfl (yp rfl) ?_
    refine sxl_y (wn_none rfl) rfl rfl (y_neq_f rfl rfl rfl (by omega)) ?_
    refine sxl_y (wn_none rfl) rfl rfl (yp rfl) ?_
    refine sxl_y (wn_on rfl rfl rfl) rfl rfl (yp rfl) ?_
    refine sxl_y (wn_on rfl rfl rfl) rfl rfl (y_bstr rfl rfl Tryd.underlying39 Tryd.underlying5 Tryd.underlying9 hrd) ?_
    refine sxl_y (wn_on rfl rfl rfl) rfl rfl (yp rfl) ?_
    refine sxl_y (wn_on rfl rfl rfl) rfl rfl (y_sneq_t (b := t) rfl rfl rfl hlt') ?_
    refine sxl_y (wn_none rfl) rfl rfl (yp rfl) ?_
    refine sxl_nil ?_
    refine qx_seq ?_
    refine sx_true rfl ?_
    refine sx_seq ?_
    refine sx_region ?_
    refine sxl_y (wn_none rfl) rfl rfl (yp rfl) ?_
    refine sxl_nil ?_
    refine qx_seq ?_
    refine sx_ret ?_
    refine qx_block_ret ?_
    refine qx_then_ret ?_
    refine qx_block_ret ?_
    refine qx_then_ret ?_
    refine qx_ret1 rfl rfl ?_
    exact ⟨false, rfl, hf04, fun _ hall => by
      have := hall k t ht
      rw [hra] at this
      injection this with _ h1
      exact absurd h1 hlt'⟩
  refine sxl_y (wn_none rfl) rfl rfl (yp rfl) ?_
  refine sxl_y (wn_none rfl) rfl rfl (yp rfl) ?_
  refine sxl_y (wn_none rfl) rfl rfl (yp rfl) ?_
  refine sxl_y (wn_none rfl) rfl rfl (yp rfl) ?_
  refine sxl_y (wn_none rfl) rfl rfl (yp rfl) ?_
  refine sxl_nil ?_
  refine qx_seq ?_
  refine sx_seq ?_
  refine sx_region ?_
  refine sxl_y (wn_none rfl) rfl rfl (yp rfl) ?_
  refine sxl_y (wn_none rfl) rfl rfl (y_neq_f rfl rfl rfl (by omega)) ?_
  refine sxl_y (wn_none rfl) rfl rfl (yp rfl) ?_
  refine sxl_y (wn_on rfl rfl rfl) rfl rfl (yp rfl) ?_
  refine sxl_y (wn_on rfl rfl rfl) rfl rfl (y_bstr rfl rfl Tryd.underlying39 Tryd.underlying5 Tryd.underlying9 hrd) ?_
  refine sxl_y (wn_on rfl rfl rfl) rfl rfl (yp rfl) ?_
  refine sxl_y (wn_on rfl rfl rfl) rfl rfl (y_sneq_f (b := t) rfl rfl rfl hlt') ?_
  refine sxl_y (wn_none rfl) rfl rfl (yp rfl) ?_
  refine sxl_nil ?_
  refine qx_seq ?_
  refine sx_false rfl ?_
  refine sx_skip ?_
  refine qx_block_normal ?_
  exact qx_again [(17, .pointer (some ⟨r17, 0, none⟩)), (0, .pointer (some ⟨Q.gp, 0, none⟩))] n2 ⟨_, n2, rfl, hR2.fr hf4 (fun hh => hh) (fun hh => hh), (hfr.trans hf3).then0 hf4, rfl⟩ hn2 ⟨rfl, rfl, trivial⟩
end
end Go.Proofs.YthdlljlcffokbaaDoor
