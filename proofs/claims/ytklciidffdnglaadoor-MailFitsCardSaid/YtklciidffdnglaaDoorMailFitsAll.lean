/- MailFits: for every model and every patch the law returns true, and what came in reads as it did. The listed variables are as the program lays them. -/
import Derived.Test.YtklciidffdnglaaDoorBack
import Derived.Test.YtklciidffdnglaaDoorFitsPlain
import Derived.Test.YtklciidffdnglaaDoorBinds
import Derived.Test.YtklciidffdnglaaDoorFlat
import Derived.Deep.Slices
import Derived.Deep.Strs
import Derived.ProofKit
import Derived.OpenShut
import Derived.SizedLaws
import Derived.Lib.SmallJoins
import Derived.ChangeArms
import Derived.Test.YtklciidffdnglaaDoorBase
import Derived.Deep.DeepHandedRow
import Derived.Lay
import Derived.KernelRfl
import Derived.Test.YtklciidffdnglaaDoorCards
import Derived.Test.YtklciidffdnglaaDoorTie
import Derived.ShutString
import Derived.ChangeOld
import Derived.Below
import Derived.Lib.LaidTab
import GoSem.PinnedTables
namespace Go.Proofs.YtklciidffdnglaaDoor
open Go.RowKit

theorem Fr.none_of {w w' w'' : World} {m : Nat} (h : Fr0 w w') (h' : Fr (fun k => k = m) w' w'') (hm : w.heap.size ≤ m) : Fr0 w w'' := h.step h' (fun k hk e => by omega)
namespace Sf
/-- Between two rounds. -/
structure JF (w0 : World) (mp : Nat) (l : List Bd) (r : Loop) (i : Nat) (w' : World) : Prop where
  fr : Fr (fun k => k = mp) w0 w'
  mp : Mp w' mp (kindsFrom (l.drop i))
  rc : w'.heap[w0.heap.size + 1]? = some (.loop r)
  df : w'.heap[w0.heap.size]? = some (.deferred (some []))
set_option maxHeartbeats 16000000 in
theorem fits_ok (id nm : List UInt8) (A B : Option Addr) (c cp : Nat) (vE vF : Value) (l p : List Bd) (w : World) (hl : BdOk l) (hp : BdOk p) (hrl : Rd w A (l.length * 5) (flatD l)) (hrp : Rd w B (p.length * 5) (flatD p)) (hT : Laid w utfL) :
    Calls Tryd.prog 4 #[.agg (mcells id nm A l.length c vE vF).toArray, .slice B p.length cp] w fun e w' => e = .returned (.int .i64 (fitsOf l p)) ∧ Fr0 w w' := by
  have hlen := hl.len
  have hplen := hp.len
  refine sx_enter (vs := [_, _]) Tryd.func4 rfl Tryd.ntmps4 rfl ?_
  refine sx_seq ?_
  refine sx_region ?_
  refine sxl_does (some 2) (wn_none rfl) rfl rfl (fun ρ hρ => does_box 26 (.tmp 0) rfl (mcells id nm A l.length c vE vF) (by rw [hρ _ _ rfl]; rfl)) ?_
  rintro _ w1 ⟨g2, rfl, hg2a, hg2b, hb2, hf1⟩
  refine sxl_y (wn_none rfl) rfl rfl (yp rfl) ?_
  refine sxl_nil ?_
  refine qx_seq ?_
  refine sx_seq ?_
  refine sx_seq ?_
  refine sx_region ?_
  refine sxl_y (wn_none rfl) rfl rfl (yp rfl) ?_
  refine sxl_call (some 14) (by first | exact wn_none rfl | exact wn_on rfl rfl rfl) rfl rfl (yc_call rfl rfl Tryd.call6) (vBinds_ok B cp p _ hp (hrp.fr0 hf1) (hT.fr hf1)) ?_
  rintro _ w2 ⟨rfl, hf2⟩
  refine ⟨_, rfl, ?_⟩
  have hf2' := hf1.trans hf2
  by_cases he : cbFrom [] p = 0
  case neg =>
    have hres : fitsOf l p = cbFrom [] p := by unfold fitsOf; rw [if_neg he]
    refine sxl_y (wn_none rfl) rfl rfl (yp rfl) ?_
    refine sxl_nil ?_
    refine qx_seq ?_
    refine sx_seq ?_
    refine sx_region ?_
    refine sxl_y (wn_none rfl) rfl rfl (yp rfl) ?_
    refine sxl_y (wn_none rfl) rfl rfl (y_neq_t rfl rfl rfl (by omega)) ?_
    refine sxl_nil ?_
    refine qx_seq ?_
    refine sx_true rfl ?_
    refine sx_seq ?_
    refine sx_region ?_
    refine sxl_y (wn_none rfl) rfl rfl (yp rfl) ?_
    refine sxl_y (wn_none rfl) rfl rfl (yp rfl) ?_
    refine sxl_nil ?_
    refine qx_seq ?_
    refine sx_ret ?_
    refine qx_then_ret ?_
    refine qx_ret1 rfl rfl ?_
    exact ⟨by rw [hres], hf2'⟩
  have hres : fitsOf l p = fitFrom l p := by unfold fitsOf; rw [if_pos he]
  refine sxl_y (wn_none rfl) rfl rfl (yp rfl) ?_
  refine sxl_nil ?_
  refine qx_seq ?_
  refine sx_seq ?_
  refine sx_region ?_
  refine sxl_y (wn_none rfl) rfl rfl (yp rfl) ?_
  refine sxl_y (wn_none rfl) rfl rfl (y_neq_f rfl rfl rfl (by omega)) ?_
  refine sxl_nil ?_
  refine qx_seq ?_
  refine sx_false rfl ?_
  refine sx_skip ?_
  refine qx_seq ?_
  refine sx_seq ?_
  refine sx_region ?_
  refine sxl_does (some 18) (wn_none rfl) rfl rfl (fun ρ hρ => does_mapE rfl) ?_
  rintro _ w3 ⟨mp, rfl, hmp1, hmp2, hM0, hf3⟩
  refine sxl_does (some 6) (wn_none rfl) rfl rfl (fun ρ hρ => does_alloc 31 rfl _ [.map none] kinds_zero rfl) ?_
  rintro _ w4 ⟨g6, rfl, hg6a, hg6b, hb6, hf4⟩
  refine sxl_does none (wn_none rfl) rfl rfl (fun ρ hρ => does_store1 31 (.tmp 6) (.tmp 18) rfl g6 0 31 _ (.map (some mp)) (hρ _ _ rfl) (hρ _ _ rfl) rfl hb6 (by kernel_rfl) (by decide) rfl) ?_
  rintro _ w5 ⟨rfl, hb6', hf5⟩
  have hne6 : g6 ≠ mp := by omega
  have hwm : w.heap.size ≤ mp := by have := hf2'.size; omega
  have hf5' : Fr0 w w5 := ((hf2'.trans hf3).trans hf4).step hf5 (fun k hk e => by have := hf2'.size; have := hf3.size; omega)
  have hM5 : Mp w5 mp [] := (hM0.fr hf4 (fun hh => hh)).fr hf5 (fun e => hne6 e.symm)
  have hs1 := hf1.size
  have hs2 := hf2.size
  have hs3 := hf3.size
  have hs4 := hf4.size
  have hs5 := hf5.size
  have hb2' : Blk w5 g2 26 (mcells id nm A l.length c vE vF) := (((hb2.fr hf2 (fun hh => hh)).fr hf3 (fun hh => hh)).fr hf4 (fun hh => hh)).fr hf5 (fun e => by omega)
  have c2 : Cell w5.heap g2 2 (.slice A l.length c) := hb2'.c 2 rfl
  refine sxl_nil ?_
  refine qx_seq ?_
  refine sx_seq ?_
  refine sx_seq ?_
  refine sx_region ?_
  refine sxl_y (wn_none rfl) rfl rfl (yp rfl) ?_
  refine sxl_y (wn_none rfl) rfl rfl (y_load rfl rfl (sc rfl) (by assumption)) ?_
  refine sxl_call (some 21) (by first | exact wn_none rfl | exact wn_on rfl rfl rfl) rfl rfl (yc_call rfl rfl Tryd.call7) (backMk_ok A l.length c _) ?_
  rintro _ w6 ⟨gb, rfl, hgb1, hgb2, hbb, hf6⟩
  refine ⟨_, rfl, ?_⟩
  have hf6' := hf5'.trans hf6
  have hs6 := hf6.size
  have hb6_6 : Blk w6 g6 31 [.map (some mp)] := Blk.fr hb6' hf6 (fun hh => hh)
  have hM6 : Mp w6 mp [] := hM5.fr hf6 (fun hh => hh)
  refine sxl_nil ?_
  refine qx_seq ?_
  refine sx_block ?_
  refine sx_range rfl Tryd.call12 ?_
  intro fn tm rc htm hget hrc
  have h6 : tm[6]? = some (.pointer (some ⟨g6, 0, none⟩)) := hget 6 _ rfl
  have hrdJ : ∀ i w', JF w6 mp l rc i w' → Fr0 w w' := fun i w' hJ => Fr.none_of hf6' hJ.fr hwm
  refine (back_ok A c (w6.heap.size + 1) gb l (JF w6 mp l rc) hlen (fun i w' hJ => (hbb.fr hJ.fr (by omega)).c 0 rfl) (fun i w' hJ => hrl.fr0 (hrdJ i w' hJ)) (fun i w' hJ => ⟨rc, hJ.rc, by rw [hrc]; rfl⟩) ?_ _ ?_).mono ?_
  · intro i x w' r hx hJ hr
    have hrr : r = rc := by have := hJ.rc; rw [hr] at this; injection this with this; injection this
    rw [hrr]
    refine roundIn_of_wpIn (F := Fence.wide) trivial ?_
    have hfold : ((rc.params.zip [Value.int .i64 (i : Int), x.val].toArray).foldl (fun tmps (t, a) => tmps.setIfInBounds t a) rc.tmps) = (tm.setIfInBounds 22 (.int .i64 (i : Int))).setIfInBounds 23 x.val := by
      rw [hrc, ← Array.foldl_toList, Array.toList_zip]; rfl
    rw [hfold]
    have a0 : Agr [] 53 [(6, .pointer (some ⟨g6, 0, none⟩))] { tmps := tm, defers := [] } := ⟨htm, rfl, fun k v hk => by
      unfold Env.get at hk
      cases hb : Nat.beq 6 k with
      | true =>
        rw [hb] at hk
        injection hk with hk
        have := Nat.eq_of_beq_eq_true hb
        subst this
        rw [← hk]; exact h6
      | false => rw [hb] at hk; cases hk⟩
    have hs' := hJ.fr.size
    have hasg : rc.assign = (recOf w6 fn tm rc.params rc.assign rc.body).assign := rfl
    have hcode := hrc
    rw [show rc.assign = _ from congrArg Loop.assign hrc, show rc.body = _ from congrArg Loop.body hrc]
    simp only [recOf]
    refine Sx.run (rd := some (w6.heap.size + 1)) (D := []) (n := 53) (e := [(23, x.val), (22, .int .i64 (i : Int)), (6, .pointer (some ⟨g6, 0, none⟩))]) ?_ _ ((a0.put (d := 22) (by omega) (.int .i64 (i : Int))).put (d := 23) (by omega) x.val)
    refine sx_region ?_
    refine sxl_does (some 8) (wn_none rfl) rfl rfl (fun ρ hρ => does_alloc 38 rfl _ _ bind_zero rfl) ?_
    rintro _ v1 ⟨g8, rfl, h8a, h8b, hb8, hf8⟩
    refine sxl_does none (wn_none rfl) rfl rfl (fun ρ hρ => does_store 38 (.tmp 8) (.tmp 23) rfl g8 0 38 _ x.cells (hρ _ _ rfl) (hρ _ _ rfl) hb8 bind_size (by show 0 + 5 ≤ 5; omega) (Bd.cells_one _)) ?_
    rintro _ v2 ⟨rfl, hb8', hf8'⟩
    rw [put_all zeroBd.cells x.cells rfl] at hb8'
    have hfa : Fr0 w' v2 := hf8.step hf8' (fun k hk e => by omega)
    have hrc2 : v2.heap[w6.heap.size + 1]? = some (.loop rc) := (hfa.block _ (Array.getElem?_eq_some_iff.1 hJ.rc).1 (fun hh => hh)).trans hJ.rc
    have hrlt := (Array.getElem?_eq_some_iff.1 hJ.rc).1
    have hsa := hfa.size
    have hready : rc.state = .ready := by rw [hrc]; rfl
    refine sxl_nil (.mk fun a1 ha1 => ⟨_, run_beginRound hrc2 hready, Sx.run (rd := some (w6.heap.size + 1)) ?_ a1 ha1⟩)
    obtain ⟨v3, hv3⟩ : ∃ v3, v2.putObj (w6.heap.size + 1) (.loop { rc with state := .busy }) = v3 := ⟨_, rfl⟩
    rw [hv3]
    have hfr2 : Fr (fun k => k = mp) w6 v2 := hJ.fr.step hfa (fun k hk hh => hh.elim)
    have hfr3 : Fr (fun k => k = mp) w6 v3 := by rw [← hv3]; exact hfr2.putObj _ (by omega)
    have hM3 : Mp v3 mp (kindsFrom (l.drop (i + 1))) := by rw [← hv3]; exact (hJ.mp.fr hfa (fun hh => hh)).putObj _ (by omega)
    have hb8_3 : Blk v3 g8 38 x.cells := by rw [← hv3]; exact hb8'.putObj _ (by omega)
    have hs3' : v3.heap.size = v2.heap.size := by rw [← hv3]; exact World.putObj_size
    have hrc3 : v3.heap[w6.heap.size + 1]? = some (.loop { rc with state := .busy }) := by rw [← hv3]; exact World.putObj_heap_same (by omega)
    have hdf3 : v3.heap[w6.heap.size]? = some (.deferred (some [])) := by rw [← hv3]; exact (World.putObj_heap_other (by omega)).trans ((hfa.block _ (by omega) (fun hh => hh)).trans hJ.df)
    have c6 : Cell v3.heap g6 0 (.map (some mp)) := (hb6_6.fr hfr3 hne6).c 0 rfl
    have el := blk_bind hb8_3
    have e0 := el.name
    have e1 := el.kind
    refine sx_block ?_
    refine sx_region ?_
    refine sxl_y (wn_none rfl) rfl rfl (y_load rfl rfl (sc rfl) (by assumption)) ?_
    refine sxl_y (wn_none rfl) rfl rfl (yp rfl) ?_
    refine sxl_y (wn_none rfl) rfl rfl (y_load rfl rfl (sc rfl) (by assumption)) ?_
    refine sxl_y (wn_none rfl) rfl rfl (yp rfl) ?_
    refine sxl_y (wn_none rfl) rfl rfl (yp rfl) ?_
    refine sxl_y (wn_none rfl) rfl rfl (y_load rfl rfl (sc rfl) (by assumption)) ?_
    refine sxl_does none (wn_none rfl) rfl rfl (fun ρ hρ => does_mapUpdate (v := .int .u8 (x.v.kind.toNat : Int)) rfl (hρ _ _ rfl) (hρ _ _ rfl) (hρ _ _ rfl) Tryd.underlying31 Tryd.underlying9 hM3) ?_
    rintro _ v4 ⟨rfl, hf9, hM4⟩
    have hs9 := hf9.size
    have hrc4 : v4.heap[w6.heap.size + 1]? = some (.loop { rc with state := .busy }) := (hf9.block _ (by omega) (by omega)).trans hrc3
    have hdf4 : v4.heap[w6.heap.size]? = some (.deferred (some [])) := (hf9.block _ (by omega) (by omega)).trans hdf3
    refine sxl_nil (qx_block_normal (.mk fun a2 _ => ⟨_, _, run_endRound none hrc4, rfl, ?_⟩))
    have hback : ({ ({ rc with state := LoopState.busy } : Loop) with state := if (none : Option Code).isNone then LoopState.ready else LoopState.done, pending := none } : Loop) = rc := by rw [hrc]; rfl
    rw [hback]
    refine ⟨(hfr3.step hf9 (fun k hk e => e)).putObj _ (by omega), ?_, World.putObj_heap_same (by omega), (World.putObj_heap_other (by omega)).trans hdf4⟩
    rw [drop_at hx]
    exact hM4.putObj _ (by omega)
  · have e1 : (w6.alloc (.deferred (some []))).heap.size = w6.heap.size + 1 := World.size_alloc _ _
    refine ⟨(Fr.refl.alloc _).alloc _, ?_, ?_, ?_⟩
    · rw [List.drop_length]
      exact hM6.fr ((Fr.refl.alloc _).alloc _ : Fr0 w6 _) (fun hh => hh)
    · have := World.alloc_heap_new (w6.alloc (.deferred (some []))) (.loop rc)
      rw [e1] at this; exact this
    · rw [alloc_old _ _ (by rw [e1]; omega)]
      exact World.alloc_heap_new _ _
  rintro _ w8 ⟨rfl, hJ⟩
  have hs8 := hJ.fr.size
  have hrlt := (Array.getElem?_eq_some_iff.1 hJ.rc).1
  refine ⟨_, rc, rfl, hJ.rc, (by rw [hrc]; intro h; cases h), (by rw [hrc]; rfl), ?_⟩
  obtain ⟨w9, hw9⟩ : ∃ w9, w8.putObj (w6.heap.size + 1) (.loop { rc with state := .exhausted }) = w9 := ⟨_, rfl⟩
  rw [hw9]
  have hf9 : Fr0 w w9 := by rw [← hw9]; exact (hrdJ _ _ hJ).putObj _ (by omega)
  have hM9 : Mp w9 mp (kindsFrom l) := by rw [← hw9]; exact hJ.mp.putObj _ (by omega)
  have hb6_9 : Blk w9 g6 31 [.map (some mp)] := by rw [← hw9]; exact (hb6_6.fr hJ.fr hne6).putObj _ (by omega)
  have hdf9 : w9.heap[w6.heap.size]? = some (.deferred (some [])) := by rw [← hw9]; exact (World.putObj_heap_other (by omega)).trans hJ.df
  refine qx_block_normal ?_
  refine qx_seq ?_
  refine sx_seq ?_
  refine sx_seq ?_
  refine sx_region ?_
  refine sxl_y (wn_none rfl) rfl rfl (yp rfl) ?_
  refine sxl_y (wn_none rfl) rfl rfl (y_len rfl rfl (sl rfl)) ?_
  refine sxl_y (wn_none rfl) rfl rfl (yp rfl) ?_
  refine sxl_nil ?_
  refine qx_seq ?_
  refine sx_block ?_
  refine sx_loop (e0 := [(32, .int .i64 0), (31, .int .i64 (p.length : Int)), (30, .slice B p.length cp), (6, .pointer (some ⟨g6, 0, none⟩))]) (fun e wr m => ∃ (i : Nat), e = [(32, .int .i64 (i : Int)), (31, .int .i64 (p.length : Int)), (30, .slice B p.length cp), (6, .pointer (some ⟨g6, 0, none⟩))] ∧ Fr0 w9 wr ∧ i ≤ p.length ∧ fitFrom l p = fitFrom l (p.drop i) ∧ m = p.length - i) ⟨0, rfl, Fr.refl, Nat.zero_le _, rfl, rfl⟩ ⟨rfl, rfl, rfl, rfl, trivial⟩ ?_
  rintro _ wr _ ⟨i, rfl, hfr, hi, hfit, rfl⟩
  have hlt9 := (Array.getElem?_eq_some_iff.1 hdf9).1
  have hdfr : wr.heap[w6.heap.size]? = some (.deferred (some [])) := (hfr.block _ hlt9 (fun hh => hh)).trans hdf9
  have done : ∀ wx, Fr0 wr wx → Fr0 w (wx.putObj w6.heap.size (.deferred none)) ∧ wx.heap[w6.heap.size]? = some (.deferred (some [])) := fun wx hx =>
    ⟨((hf9.trans hfr).trans hx).putObj _ (by omega), (hx.block _ (Array.getElem?_eq_some_iff.1 hdfr).1 (fun hh => hh)).trans hdfr⟩
  by_cases hlt : i < p.length
  · obtain ⟨x, hx⟩ : ∃ x, p[i]? = some x := ⟨_, List.getElem?_eq_getElem hlt⟩
    obtain ⟨b, off, rfl, el⟩ := rd_bind (hrp.fr0 (hf9.trans hfr)) hx
    rw [drop_at hx, fitFrom] at hfit
    refine sx_seq ?_
    refine sx_region ?_
    refine sxl_y (wn_none rfl) rfl rfl (y_lss_t rfl rfl rfl (by omega)) ?_
    refine sxl_nil ?_
    refine qx_seq ?_
    refine sx_seq ?_
    refine sx_true rfl ?_
    refine sx_skip ?_
    refine qx_seq ?_
    refine sx_seq ?_
    refine sx_block ?_
    refine sx_seq ?_
    refine sx_region ?_
    refine sxl_y (wn_none rfl) rfl rfl (y_indexN rfl rfl rfl (sl rfl) (by omega)) ?_
    refine sxl_y (wn_none rfl) rfl rfl (y_loadRd rfl rfl el.all Tryd.underlying38 rfl bind_size) ?_
    refine sxl_does (some 10) (wn_none rfl) rfl rfl (fun ρ hρ => does_alloc 38 rfl _ _ bind_zero rfl) ?_
    rintro _ v1 ⟨g10, rfl, h8a, h8b, hb8, hf8⟩
    refine sxl_does none (wn_none rfl) rfl rfl (fun ρ hρ => does_store 38 (.tmp 10) (.tmp 35) rfl g10 0 38 _ x.cells (hρ _ _ rfl) (hρ _ _ rfl) hb8 bind_size (by show 0 + 5 ≤ 5; omega) (Bd.cells_one _)) ?_
    rintro _ v2 ⟨rfl, hb8', hf8'⟩
    rw [put_all zeroBd.cells x.cells rfl] at hb8'
    have hfa : Fr0 wr v2 := hf8.step hf8' (fun k hk e => by omega)
    obtain ⟨hdone, hdfx⟩ := done v2 hfa
    have hM2 : Mp v2 mp (kindsFrom l) := (hM9.fr hfr (fun hh => hh)).fr hfa (fun hh => hh)
    have c6 : Cell v2.heap g6 0 (.map (some mp)) := (Blk.fr (Blk.fr hb6_9 hfr (fun hh => hh)) hfa (fun hh => hh)).c 0 rfl
    have el2 := blk_bind hb8'
    have e0 := el2.name
    have e1 := el2.kind
    have hmg := mget_kinds x.name l
    cases hfb : bfind l x.name with
    | none =>
      rw [hfb] at hfit hmg
      refine sxl_nil ?_
      refine qx_seq ?_
      refine sx_seq ?_
      refine sx_region ?_
      refine sxl_y (wn_none rfl) rfl rfl (y_load rfl rfl (sc rfl) (by assumption)) ?_
      refine sxl_y (wn_none rfl) rfl rfl (yp rfl) ?_
      refine sxl_y (wn_none rfl) rfl rfl (y_load rfl rfl (sc rfl) (by assumption)) ?_
      refine sxl_y (wn_none rfl) rfl rfl (y_lookupR rfl rfl rfl Tryd.underlying31 Tryd.underlying9 u8_zero hM2 hmg) ?_
      refine sxl_y (wn_none rfl) rfl rfl (yp rfl) ?_
      refine sxl_y (wn_none rfl) rfl rfl (yp rfl) ?_
      refine sxl_y (wn_none rfl) rfl rfl (yp rfl) ?_
      refine sxl_y (wn_none rfl) rfl rfl (yp rfl) ?_
      refine sxl_y (wn_none rfl) rfl rfl (yp rfl) ?_
      refine sxl_nil ?_
      refine qx_seq ?_
      refine sx_block ?_
      refine sx_seq ?_
      refine sx_region ?_
      refine sxl_y (wn_none rfl) rfl rfl (yp rfl) ?_
      refine sxl_y (wn_none rfl) rfl rfl (yp rfl) ?_
      refine sxl_y (wn_none rfl) rfl rfl (yp rfl) ?_
      refine sxl_nil ?_
      refine qx_seq ?_
      refine sx_true rfl ?_
      refine sx_seq ?_
      refine sx_region ?_
      refine sxl_y (wn_none rfl) rfl rfl (yp rfl) ?_
      refine sxl_nil ?_
      refine qx_seq ?_
      refine sx_ret ?_
      refine qx_block_ret ?_
      refine qx_block_ret ?_
      refine qx_then_ret ?_
      refine qx_then_ret ?_
      refine qx_block_ret ?_
      refine qx_then_ret ?_
      refine qx_retM rfl rfl hdfx ?_
      exact ⟨by rw [hres, hfit], hdone⟩
    | some u =>
      rw [hfb] at hfit hmg
      have hfit : fitFrom l p = if u.kind = x.v.kind then fitFrom l (p.drop (i + 1)) else 90 := hfit
      by_cases hk : u.kind = x.v.kind
      · have hk' : (u.kind.toNat : Int) = x.v.kind.toNat := by rw [hk]
        rw [if_pos hk] at hfit
        refine sxl_nil ?_
        refine qx_seq ?_
        refine sx_seq ?_
        refine sx_region ?_
        refine sxl_y (wn_none rfl) rfl rfl (y_load rfl rfl (sc rfl) (by assumption)) ?_
        refine sxl_y (wn_none rfl) rfl rfl (yp rfl) ?_
        refine sxl_y (wn_none rfl) rfl rfl (y_load rfl rfl (sc rfl) (by assumption)) ?_
        refine sxl_y (wn_none rfl) rfl rfl (y_lookupR rfl rfl rfl Tryd.underlying31 Tryd.underlying9 u8_zero hM2 hmg) ?_
        refine sxl_y (wn_none rfl) rfl rfl (yp rfl) ?_
        refine sxl_y (wn_none rfl) rfl rfl (yp rfl) ?_
        refine sxl_y (wn_none rfl) rfl rfl (yp rfl) ?_
        refine sxl_y (wn_none rfl) rfl rfl (yp rfl) ?_
        refine sxl_y (wn_none rfl) rfl rfl (yp rfl) ?_
        refine sxl_nil ?_
        refine qx_seq ?_
        refine sx_block ?_
        refine sx_seq ?_
        refine sx_region ?_
        refine sxl_y (wn_none rfl) rfl rfl (yp rfl) ?_
        refine sxl_y (wn_none rfl) rfl rfl (yp rfl) ?_
        refine sxl_y (wn_none rfl) rfl rfl (yp rfl) ?_
        refine sxl_nil ?_
        refine qx_seq ?_
        refine sx_false rfl ?_
        refine sx_seq ?_
        refine sx_region ?_
        refine sxl_y (wn_none rfl) rfl rfl (yp rfl) ?_
        refine sxl_y (wn_none rfl) rfl rfl (yp rfl) ?_
        refine sxl_y (wn_none rfl) rfl rfl (yp rfl) ?_
        refine sxl_y (wn_none rfl) rfl rfl (y_load rfl rfl (sc rfl) (by assumption)) ?_
        refine sxl_y (wn_none rfl) rfl rfl (y_neq_f rfl rfl rfl (by omega)) ?_
        refine sxl_y (wn_none rfl) rfl rfl (yp rfl) ?_
        refine sxl_nil ?_
        refine qx_seq ?_
        refine sx_false rfl ?_
        refine sx_skip ?_
        refine qx_block_normal ?_
        refine qx_block_normal ?_
        refine qx_seq ?_
        refine sx_region ?_
        refine sxl_y (wn_none rfl) rfl rfl (y_add rfl rfl rfl (by omega)) ?_
        refine sxl_y (wn_none rfl) rfl rfl (yp rfl) ?_
        refine sxl_nil ?_
        exact qx_again [(32, .int .i64 ((i + 1 : Nat) : Int)), (31, .int .i64 (p.length : Int)), (30, .slice (some ⟨b, off, none⟩) p.length cp), (6, .pointer (some ⟨g6, 0, none⟩))] (p.length - (i + 1)) ⟨i + 1, rfl, hfr.trans hfa, by omega, hfit, rfl⟩ (by omega) ⟨rfl, rfl, rfl, rfl, trivial⟩
      · have hk' : (u.kind.toNat : Int) ≠ x.v.kind.toNat := fun e => hk (kind_toNat e)
        rw [if_neg hk] at hfit
        refine sxl_nil ?_
        refine qx_seq ?_
        refine sx_seq ?_
        refine sx_region ?_
        refine sxl_y (wn_none rfl) rfl rfl (y_load rfl rfl (sc rfl) (by assumption)) ?_
        refine sxl_y (wn_none rfl) rfl rfl (yp rfl) ?_
        refine sxl_y (wn_none rfl) rfl rfl (y_load rfl rfl (sc rfl) (by assumption)) ?_
        refine sxl_y (wn_none rfl) rfl rfl (y_lookupR rfl rfl rfl Tryd.underlying31 Tryd.underlying9 u8_zero hM2 hmg) ?_
        refine sxl_y (wn_none rfl) rfl rfl (yp rfl) ?_
        refine sxl_y (wn_none rfl) rfl rfl (yp rfl) ?_
        refine sxl_y (wn_none rfl) rfl rfl (yp rfl) ?_
        refine sxl_y (wn_none rfl) rfl rfl (yp rfl) ?_
        refine sxl_y (wn_none rfl) rfl rfl (yp rfl) ?_
        refine sxl_nil ?_
        refine qx_seq ?_
        refine sx_block ?_
        refine sx_seq ?_
        refine sx_region ?_
        refine sxl_y (wn_none rfl) rfl rfl (yp rfl) ?_
        refine sxl_y (wn_none rfl) rfl rfl (yp rfl) ?_
        refine sxl_y (wn_none rfl) rfl rfl (yp rfl) ?_
        refine sxl_nil ?_
        refine qx_seq ?_
        refine sx_false rfl ?_
        refine sx_seq ?_
        refine sx_region ?_
        refine sxl_y (wn_none rfl) rfl rfl (yp rfl) ?_
        refine sxl_y (wn_none rfl) rfl rfl (yp rfl) ?_
        refine sxl_y (wn_none rfl) rfl rfl (yp rfl) ?_
        refine sxl_y (wn_none rfl) rfl rfl (y_load rfl rfl (sc rfl) (by assumption)) ?_
        refine sxl_y (wn_none rfl) rfl rfl (y_neq_t rfl rfl rfl (by omega)) ?_
        refine sxl_y (wn_none rfl) rfl rfl (yp rfl) ?_
        refine sxl_nil ?_
        refine qx_seq ?_
        refine sx_true rfl ?_
        refine sx_seq ?_
        refine sx_region ?_
        refine sxl_y (wn_none rfl) rfl rfl (yp rfl) ?_
        refine sxl_nil ?_
        refine qx_seq ?_
        refine sx_ret ?_
        refine qx_block_ret ?_
        refine qx_block_ret ?_
        refine qx_then_ret ?_
        refine qx_then_ret ?_
        refine qx_block_ret ?_
        refine qx_then_ret ?_
        refine qx_retM rfl rfl hdfx ?_
        exact ⟨by rw [hres, hfit], hdone⟩
  · obtain rfl : i = p.length := by omega
    rw [List.drop_length] at hfit
    obtain ⟨hdone, hdfx⟩ := done wr Fr.refl
    refine sx_seq ?_
    refine sx_region ?_
    refine sxl_y (wn_none rfl) rfl rfl (y_lss_f rfl rfl rfl (by omega)) ?_
    refine sxl_nil ?_
    refine qx_seq ?_
    refine sx_seq ?_
    refine sx_false rfl ?_
    refine sx_exit ?_
    refine qx_then_exit ?_
    refine qx_then_exit ?_
    refine qx_block_hit ?_
    refine qx_seq ?_
    refine sx_seq ?_
    refine sx_region ?_
    refine sxl_y (wn_none rfl) rfl rfl (yp rfl) ?_
    refine sxl_nil ?_
    refine qx_seq ?_
    refine sx_ret ?_
    refine qx_retM rfl rfl hdfx ?_
    exact ⟨by rw [hres, hfit]; rfl, hdone⟩
end Sf
end Go.Proofs.YtklciidffdnglaaDoor
namespace Go.Proofs.YtklciidffdnglaaDoor
open Go.RowKit

set_option maxHeartbeats 16000000 in
theorem rFits_ok (id nm : List UInt8) (A B : Option Addr) (c cp : Nat) (vE vF : Value) (l p : List Bd) (w : World) (hl : BdOk l) (hp : BdOk p) (hrl : Rd w A (l.length * 5) (flatD l)) (hrp : Rd w B (p.length * 5) (flatD p)) :
    Calls Tryd.prog 5 #[.agg (mcells id nm A l.length c vE vF).toArray, .slice B p.length cp] w fun e w' => e = .returned (.int .i64 (fitsOf l p)) ∧ Fr0 w w' := by
  have hlen := hl.len
  have hplen := hp.len
  refine sx_enter (vs := [_, _]) Tryd.func5 rfl Tryd.ntmps5 rfl ?_
  refine sx_seq ?_
  refine sx_region ?_
  refine sxl_does (some 2) (wn_none rfl) rfl rfl (fun ρ hρ => does_box 26 (.tmp 0) rfl (mcells id nm A l.length c vE vF) (by rw [hρ _ _ rfl]; rfl)) ?_
  rintro _ w1 ⟨g2, rfl, hg2a, hg2b, hb2, hf1⟩
  refine sxl_y (wn_none rfl) rfl rfl (yp rfl) ?_
  refine sxl_nil ?_
  refine qx_seq ?_
  refine sx_seq ?_
  refine sx_region ?_
  refine sxl_y (wn_none rfl) rfl rfl (yp rfl) ?_
  refine sxl_call (some 10) (by first | exact wn_none rfl | exact wn_on rfl rfl rfl) rfl rfl (yc_call rfl rfl Tryd.call8) (rBinds_ok B cp p _ hp (hrp.fr0 hf1)) ?_
  rintro _ w2 ⟨rfl, hf2⟩
  refine ⟨_, rfl, ?_⟩
  by_cases he : cbFrom [] p = 0
  case neg =>
    have hres : fitsOf l p = cbFrom [] p := by unfold fitsOf; rw [if_neg he]
    refine sxl_y (wn_none rfl) rfl rfl (yp rfl) ?_
    refine sxl_nil ?_
    refine qx_seq ?_
    refine sx_seq ?_
    refine sx_seq ?_
    refine sx_region ?_
    refine sxl_y (wn_none rfl) rfl rfl (yp rfl) ?_
    refine sxl_y (wn_none rfl) rfl rfl (y_neq_t rfl rfl rfl (by omega)) ?_
    refine sxl_nil ?_
    refine qx_seq ?_
    refine sx_true rfl ?_
    refine sx_seq ?_
    refine sx_region ?_
    refine sxl_y (wn_none rfl) rfl rfl (yp rfl) ?_
    refine sxl_y (wn_none rfl) rfl rfl (yp rfl) ?_
    refine sxl_nil ?_
    refine qx_seq ?_
    refine sx_ret ?_
    refine qx_then_ret ?_
    refine qx_ret1 rfl rfl ?_
    exact ⟨by rw [hres], hf1.trans hf2⟩
  have hres : fitsOf l p = fitFrom l p := by unfold fitsOf; rw [if_pos he]
  refine sxl_y (wn_none rfl) rfl rfl (yp rfl) ?_
  refine sxl_nil ?_
  refine qx_seq ?_
  refine sx_seq ?_
  refine sx_seq ?_
  refine sx_region ?_
  refine sxl_y (wn_none rfl) rfl rfl (yp rfl) ?_
  refine sxl_y (wn_none rfl) rfl rfl (y_neq_f rfl rfl rfl (by omega)) ?_
  refine sxl_nil ?_
  refine qx_seq ?_
  refine sx_false rfl ?_
  refine sx_skip ?_
  refine qx_seq ?_
  refine sx_seq ?_
  refine sx_seq ?_
  refine sx_region ?_
  refine sxl_y (wn_none rfl) rfl rfl (yp rfl) ?_
  refine sxl_nil ?_
  refine qx_seq ?_
  refine sx_block ?_
  refine sx_loop (e0 := [(6, .int .i64 0), (2, .pointer (some ⟨g2, 0, none⟩)), (1, .slice B p.length cp)]) (fun e wr m => ∃ (i : Nat), e = [(6, .int .i64 (i : Int)), (2, .pointer (some ⟨g2, 0, none⟩)), (1, .slice B p.length cp)] ∧ Fr0 w1 wr ∧ i ≤ p.length ∧ fitFrom l p = fitFrom l (p.drop i) ∧ m = p.length - i) ⟨0, rfl, hf2, Nat.zero_le _, rfl, rfl⟩ ⟨rfl, rfl, rfl, trivial⟩ ?_
  rintro _ wr _ ⟨i, rfl, hfr, hi, hfit, rfl⟩
  by_cases hlt : i < p.length
  · obtain ⟨x, hx⟩ : ∃ x, p[i]? = some x := ⟨_, List.getElem?_eq_getElem hlt⟩
    obtain ⟨b, off, rfl, el⟩ := rd_bind (hrp.fr0 (hf1.trans hfr)) hx
    have c2 : Cell wr.heap g2 2 (.slice A l.length c) := (Blk.fr hb2 hfr (fun hh => hh)).c 2 rfl
    rw [drop_at hx, fitFrom] at hfit
    refine sx_seq ?_
    refine sx_seq ?_
    refine sx_region ?_
    refine sxl_y (wn_none rfl) rfl rfl (yp rfl) ?_
    refine sxl_y (wn_none rfl) rfl rfl (yp rfl) ?_
    refine sxl_y (wn_none rfl) rfl rfl (y_len rfl rfl (sl rfl)) ?_
    refine sxl_y (wn_none rfl) rfl rfl (y_lss_t rfl rfl rfl (by omega)) ?_
    refine sxl_nil ?_
    refine qx_seq ?_
    refine sx_true rfl ?_
    refine sx_skip ?_
    refine qx_seq ?_
    refine sx_seq ?_
    refine sx_block ?_
    refine sx_seq ?_
    refine sx_any 13 (fun w' => Cell w'.heap g2 2 (.slice A l.length c) ∧ Cell w'.heap b (off + i * 5 + 0) (str x.name)) hmix ?_
    have HS : Cell wr.drew.heap g2 2 (.slice A l.length c) ∧ Cell wr.drew.heap b (off + i * 5 + 0) (str x.name) := ⟨c2, el.name⟩
    refine sxo_via (ι := Nat) 2 #[true, true, true, true, true, true, true, true, true, true, true, true, false, false] (fun g7 w' => Fr0 wr w' ∧ wr.heap.size ≤ g7 ∧ Blk w' g7 36 zeroVl.cells)
      (fun g7 => [(30, .bool (bfind l x.name).isSome), (29, Vl.val ((bfind l x.name).getD zeroVl)), (7, .pointer (some ⟨g7, 0, none⟩)), (6, .int .i64 (i : Int)), (2, .pointer (some ⟨g2, 0, none⟩)), (1, .slice (some ⟨b, off, none⟩) p.length cp)]) ?_ ?_
    rotate_left
    · intro fin
      refine sxo_y 0 13 (by kernel_rfl) (fun c a t v w h => by cases t <;> exact h) (by kernel_rfl) rfl (by kernel_rfl) (by kernel_rfl) rfl (wn_none rfl) rfl rfl HS (fun w' hS' => yp rfl) ?_
      refine sxo_y 1 13 (by kernel_rfl) (fun c a t v w h => by cases t <;> exact h) (by kernel_rfl) rfl (by kernel_rfl) (by kernel_rfl) rfl (wn_none rfl) rfl rfl HS (fun w' hS' => y_load rfl rfl (sc rfl) (by obtain ⟨s1, s2⟩ := hS'; assumption)) ?_
      refine sxo_y 2 13 (by kernel_rfl) (fun c a t v w h => by cases t <;> exact h) (by kernel_rfl) rfl (by kernel_rfl) (by kernel_rfl) rfl (wn_none rfl) rfl rfl HS (fun w' hS' => yp rfl) ?_
      refine sxo_y 3 13 (by kernel_rfl) (fun c a t v w h => by cases t <;> exact h) (by kernel_rfl) rfl (by kernel_rfl) (by kernel_rfl) rfl (wn_none rfl) rfl rfl HS (fun w' hS' => yp rfl) ?_
      refine sxo_y 4 13 (by kernel_rfl) (fun c a t v w h => by cases t <;> exact h) (by kernel_rfl) rfl (by kernel_rfl) (by kernel_rfl) rfl (wn_none rfl) rfl rfl HS (fun w' hS' => y_indexN rfl rfl rfl (sl rfl) (by omega)) ?_
      refine sxo_y 5 13 (by kernel_rfl) (fun c a t v w h => by cases t <;> exact h) (by kernel_rfl) rfl (by kernel_rfl) (by kernel_rfl) rfl (wn_none rfl) rfl rfl HS (fun w' hS' => yp rfl) ?_
      refine sxo_y 6 13 (by kernel_rfl) (fun c a t v w h => by cases t <;> exact h) (by kernel_rfl) rfl (by kernel_rfl) (by kernel_rfl) rfl (wn_none rfl) rfl rfl HS (fun w' hS' => y_load rfl rfl (sc rfl) (by obtain ⟨s1, s2⟩ := hS'; assumption)) ?_
      refine sxo_all (rs := [7, 11]) (by kernel_rfl) (by simp) ?_
      intro j hj
      obtain rfl | rfl : j = 7 ∨ j = 11 := by simpa using hj
      · refine op_call (some 28) rfl (wn_none rfl) rfl rfl (yc_call rfl rfl Tryd.call9) (find_ok A c l x.name _ hlen (hrl.fr0 ((hf1.trans hfr).trans Fr.refl.drew))) ?_
        rintro _ w3 ⟨rfl, hf3⟩
        have hf3' : Fr0 wr w3 := hf3.ofDrew
        have hs3 := hf3'.size
        have HS : Cell w3.heap g2 2 (.slice A l.length c) ∧ Cell w3.heap b (off + i * 5 + 0) (str x.name) := ⟨c2.fr hf3' (fun hh => hh), el.name.fr hf3' (fun hh => hh)⟩
        refine ⟨_, rfl, fun _ => HS, ?_⟩
        refine sxo_y 8 13 (by kernel_rfl) (fun c a t v w h => by cases t <;> exact h) (by kernel_rfl) rfl (by kernel_rfl) (by kernel_rfl) rfl (wn_none rfl) rfl rfl HS (fun w' hS' => yp rfl) ?_
        refine sxo_y 9 13 (by kernel_rfl) (fun c a t v w h => by cases t <;> exact h) (by kernel_rfl) rfl (by kernel_rfl) (by kernel_rfl) rfl (wn_none rfl) rfl rfl HS (fun w' hS' => yp rfl) ?_
        refine sxo_y 10 13 (by kernel_rfl) (fun c a t v w h => by cases t <;> exact h) (by kernel_rfl) rfl (by kernel_rfl) (by kernel_rfl) rfl (wn_none rfl) rfl rfl HS (fun w' hS' => yp rfl) ?_
        refine sxo_does 11 (some 7) (by kernel_rfl) rfl (wn_none rfl) rfl rfl (fun ρ hρ => does_alloc 36 rfl _ _ value_zero rfl) ?_
        rintro _ w4 ⟨g7, rfl, hg7a, hg7b, hb7, hf4⟩
        refine ⟨fun _ => ⟨HS.1.fr hf4 (fun hh => hh), HS.2.fr hf4 (fun hh => hh)⟩, ?_⟩
        exact fin g7 w4 _ _ ⟨hf3'.trans hf4, by omega, hb7⟩ ⟨rfl, rfl, rfl, rfl, rfl, rfl, trivial⟩ (by kernel_rfl)
      · refine op_does' (some 7) rfl (wn_none rfl) rfl rfl (fun ρ hρ => does_alloc 36 rfl _ _ value_zero rfl) ?_
        rintro _ w3 ⟨g7, rfl, hg7a, hg7b, hb7, hf3⟩
        have hg7c : wr.heap.size ≤ g7 := hg7a
        have hf3' : Fr0 wr w3 := hf3.ofDrew
        refine ⟨fun _ => ⟨c2.fr hf3' (fun hh => hh), el.name.fr hf3' (fun hh => hh)⟩, ?_⟩
        refine sxo_call 7 (some 28) (by kernel_rfl) rfl (wn_none rfl) rfl rfl (yc_call rfl rfl Tryd.call9) (find_ok A c l x.name _ hlen (hrl.fr0 ((hf1.trans hfr).trans hf3'))) ?_
        rintro _ w4 ⟨rfl, hf4⟩
        have hf4' : Fr0 wr w4 := hf3'.trans hf4
        have HS : Cell w4.heap g2 2 (.slice A l.length c) ∧ Cell w4.heap b (off + i * 5 + 0) (str x.name) := ⟨c2.fr hf4' (fun hh => hh), el.name.fr hf4' (fun hh => hh)⟩
        refine ⟨_, rfl, fun _ => HS, ?_⟩
        refine sxo_y 8 13 (by kernel_rfl) (fun c a t v w h => by cases t <;> exact h) (by kernel_rfl) rfl (by kernel_rfl) (by kernel_rfl) rfl (wn_none rfl) rfl rfl HS (fun w' hS' => yp rfl) ?_
        refine sxo_y 9 13 (by kernel_rfl) (fun c a t v w h => by cases t <;> exact h) (by kernel_rfl) rfl (by kernel_rfl) (by kernel_rfl) rfl (wn_none rfl) rfl rfl HS (fun w' hS' => yp rfl) ?_
        refine sxo_y 10 13 (by kernel_rfl) (fun c a t v w h => by cases t <;> exact h) (by kernel_rfl) rfl (by kernel_rfl) (by kernel_rfl) rfl (wn_none rfl) rfl rfl HS (fun w' hS' => yp rfl) ?_
        exact fin g7 w4 _ _ ⟨hf4', hg7c, Blk.fr hb7 hf4 (fun hh => hh)⟩ ⟨rfl, rfl, rfl, rfl, rfl, rfl, trivial⟩ (by kernel_rfl)
    rintro g7 w4 ⟨hf4, hg7, hb7⟩
    have hf4 : Fr0 wr w4 := hf4
    have hg7 : wr.heap.size ≤ g7 := hg7
    have hb7 : Blk w4 g7 36 zeroVl.cells := hb7
    refine sxo_does 12 none (by kernel_rfl) rfl (wn_none rfl) rfl rfl (fun ρ hρ => does_store 36 (.tmp 7) (.tmp 29) rfl g7 0 36 _ (((bfind l x.name).getD zeroVl).cells) (hρ _ _ rfl) (hρ _ _ rfl) hb7 value_size (by show 0 + 4 ≤ 4; omega) (Vl.cells_one _)) ?_
    rintro _ w5 ⟨rfl, hb7', hf5⟩
    rw [put_all zeroVl.cells (((bfind l x.name).getD zeroVl).cells) rfl] at hb7'
    have hfa : Fr0 wr w5 := hf4.step hf5 (fun k hk e => by omega)
    refine ⟨fun _ => ⟨c2.fr hfa (fun hh => hh), el.name.fr hfa (fun hh => hh)⟩, ?_⟩
    refine sxo_seq 13 (by kernel_rfl) rfl rfl (by kernel_rfl) ?_
    have hw5 : Fr0 w w5 := (hf1.trans hfr).trans hfa
    cases hfb : bfind l x.name with
    | none =>
      rw [hfb] at hfit
      refine sxl_y (wn_none rfl) rfl rfl (yp rfl) ?_
      refine sxl_nil ?_
      refine qx_seq ?_
      refine sx_seq ?_
      refine sx_seq ?_
      refine sx_region ?_
      refine sxl_y (wn_none rfl) rfl rfl (yp rfl) ?_
      refine sxl_y (wn_none rfl) rfl rfl (yp rfl) ?_
      refine sxl_nil ?_
      refine qx_seq ?_
      refine sx_true rfl ?_
      refine sx_seq ?_
      refine sx_region ?_
      refine sxl_y (wn_none rfl) rfl rfl (yp rfl) ?_
      refine sxl_nil ?_
      refine qx_seq ?_
      refine sx_ret ?_
      refine qx_then_ret ?_
      refine qx_block_ret ?_
      refine qx_then_ret ?_
      refine qx_then_ret ?_
      refine qx_block_ret ?_
      refine qx_then_ret ?_
      refine qx_ret1 rfl rfl ?_
      exact ⟨by rw [hres, hfit], hw5⟩
    | some u =>
      rw [hfb] at hfit hb7'
      have hfit : fitFrom l p = if u.kind = x.v.kind then fitFrom l (p.drop (i + 1)) else 90 := hfit
      have c7 : Cell w5.drew.heap g7 0 (.int .u8 (u.kind.toNat : Int)) := (Blk.c hb7' 0 rfl : Cell w5.heap g7 0 _)
      have ck : Cell w5.drew.heap b (off + i * 5 + 1 + 0) (.int .u8 (x.v.kind.toNat : Int)) := (Cell.fr el.kind hfa (fun hh => hh) : Cell w5.heap b _ _)
      by_cases hk : u.kind = x.v.kind
      · have hk' : (u.kind.toNat : Int) = x.v.kind.toNat := by rw [hk]
        rw [if_pos hk] at hfit
        refine sxl_y (wn_none rfl) rfl rfl (yp rfl) ?_
        refine sxl_nil ?_
        refine qx_seq ?_
        refine sx_seq ?_
        refine sx_seq ?_
        refine sx_region ?_
        refine sxl_y (wn_none rfl) rfl rfl (yp rfl) ?_
        refine sxl_y (wn_none rfl) rfl rfl (yp rfl) ?_
        refine sxl_nil ?_
        refine qx_seq ?_
        refine sx_false rfl ?_
        refine sx_skip ?_
        refine qx_seq ?_
        refine sx_seq ?_
        refine sx_still hmix (by kernel_rfl) ?_
        refine sxs_y (wn_none rfl) rfl rfl (yp rfl) ?_
        refine sxs_y (wn_none rfl) rfl rfl (y_load rfl rfl (sc rfl) (by assumption)) ?_
        refine sxs_y (wn_none rfl) rfl rfl (yp rfl) ?_
        refine sxs_y (wn_none rfl) rfl rfl (yp rfl) ?_
        refine sxs_y (wn_none rfl) rfl rfl (y_indexN rfl rfl rfl (sl rfl) (by omega)) ?_
        refine sxs_y (wn_none rfl) rfl rfl (yp rfl) ?_
        refine sxs_y (wn_none rfl) rfl rfl (yp rfl) ?_
        refine sxs_y (wn_none rfl) rfl rfl (y_load rfl rfl (sc rfl) (by assumption)) ?_
        refine sxs_y (wn_none rfl) rfl rfl (y_neq_f rfl rfl rfl (by omega)) ?_
        refine sxs_end ?_
        refine qx_seq ?_
        refine sx_false rfl ?_
        refine sx_skip ?_
        refine qx_block_normal ?_
        refine qx_seq ?_
        refine sx_region ?_
        refine sxl_y (wn_none rfl) rfl rfl (yp rfl) ?_
        refine sxl_y (wn_none rfl) rfl rfl (y_add rfl rfl rfl (by omega)) ?_
        refine sxl_y (wn_none rfl) rfl rfl (yp rfl) ?_
        refine sxl_nil ?_
        exact qx_again [(6, .int .i64 ((i + 1 : Nat) : Int)), (2, .pointer (some ⟨g2, 0, none⟩)), (1, .slice (some ⟨b, off, none⟩) p.length cp)] (p.length - (i + 1)) ⟨i + 1, rfl, (hfr.trans hfa).drew, by omega, hfit, rfl⟩ (by omega) ⟨rfl, rfl, rfl, trivial⟩
      · have hk' : (u.kind.toNat : Int) ≠ x.v.kind.toNat := fun e => hk (kind_toNat e)
        rw [if_neg hk] at hfit
        refine sxl_y (wn_none rfl) rfl rfl (yp rfl) ?_
        refine sxl_nil ?_
        refine qx_seq ?_
        refine sx_seq ?_
        refine sx_seq ?_
        refine sx_region ?_
        refine sxl_y (wn_none rfl) rfl rfl (yp rfl) ?_
        refine sxl_y (wn_none rfl) rfl rfl (yp rfl) ?_
        refine sxl_nil ?_
        refine qx_seq ?_
        refine sx_false rfl ?_
        refine sx_skip ?_
        refine qx_seq ?_
        refine sx_seq ?_
        refine sx_still hmix (by kernel_rfl) ?_
        refine sxs_y (wn_none rfl) rfl rfl (yp rfl) ?_
        refine sxs_y (wn_none rfl) rfl rfl (y_load rfl rfl (sc rfl) (by assumption)) ?_
        refine sxs_y (wn_none rfl) rfl rfl (yp rfl) ?_
        refine sxs_y (wn_none rfl) rfl rfl (yp rfl) ?_
        refine sxs_y (wn_none rfl) rfl rfl (y_indexN rfl rfl rfl (sl rfl) (by omega)) ?_
        refine sxs_y (wn_none rfl) rfl rfl (yp rfl) ?_
        refine sxs_y (wn_none rfl) rfl rfl (yp rfl) ?_
        refine sxs_y (wn_none rfl) rfl rfl (y_load rfl rfl (sc rfl) (by assumption)) ?_
        refine sxs_y (wn_none rfl) rfl rfl (y_neq_t rfl rfl rfl (by omega)) ?_
        refine sxs_end ?_
        refine qx_seq ?_
        refine sx_true rfl ?_
        refine sx_seq ?_
        refine sx_region ?_
        refine sxl_y (wn_none rfl) rfl rfl (yp rfl) ?_
        refine sxl_nil ?_
        refine qx_seq ?_
        refine sx_ret ?_
        refine qx_block_ret ?_
        refine qx_then_ret ?_
        refine qx_then_ret ?_
        refine qx_block_ret ?_
        refine qx_then_ret ?_
        refine qx_ret1 rfl rfl ?_
        exact ⟨by rw [hres, hfit], hw5.drew⟩
  · obtain rfl : i = p.length := by omega
    rw [List.drop_length] at hfit
    refine sx_seq ?_
    refine sx_seq ?_
    refine sx_region ?_
    refine sxl_y (wn_none rfl) rfl rfl (yp rfl) ?_
    refine sxl_y (wn_none rfl) rfl rfl (yp rfl) ?_
    refine sxl_y (wn_none rfl) rfl rfl (y_len rfl rfl (sl rfl)) ?_
    refine sxl_y (wn_none rfl) rfl rfl (y_lss_f rfl rfl rfl (by omega)) ?_
    refine sxl_nil ?_
    refine qx_seq ?_
    refine sx_false rfl ?_
    refine sx_exit ?_
    refine qx_then_exit ?_
    refine qx_then_exit ?_
    refine qx_block_hit ?_
    refine qx_seq ?_
    refine sx_seq ?_
    refine sx_region ?_
    refine sxl_y (wn_none rfl) rfl rfl (yp rfl) ?_
    refine sxl_nil ?_
    refine qx_seq ?_
    refine sx_ret ?_
    refine qx_ret1 rfl rfl ?_
    exact ⟨by rw [hres, hfit]; rfl, hf1.trans hfr⟩
end Go.Proofs.YtklciidffdnglaaDoor
namespace Go.Proofs.YtklciidffdnglaaDoor
open Go.RowKit

theorem model_size : (Tryd.prog.info? 26).map (·.size) = some 5 := by kernel_rfl
set_option maxHeartbeats 16000000 in
theorem mailFits_walk (id nm : List UInt8) (A B : Option Addr) (c cp : Nat) (vE vF : Value) (l p : List Bd) (w : World) (hl : BdOk l) (hp : BdOk p) (hrl : Rd w A (l.length * 5) (flatD l)) (hrp : Rd w B (p.length * 5) (flatD p)) (hT : Laid w utfL) :
    Calls Tryd.prog 3 #[.agg (mcells id nm A l.length c vE vF).toArray, .slice B p.length cp] w fun e w' => e = .returned (.bool true) ∧ Fr0 w w' := by
  refine sx_enter (vs := [_, _]) Tryd.func3 rfl Tryd.ntmps3 rfl ?_
  refine sx_seq ?_
  refine sx_region ?_
  refine sxl_does (some 2) (wn_none rfl) rfl rfl (fun ρ hρ => does_box 26 (.tmp 0) rfl (mcells id nm A l.length c vE vF) (by rw [hρ _ _ rfl]; rfl)) ?_
  rintro _ w1 ⟨g2, rfl, hg2a, hg2b, hb2, hf1⟩
  refine sxl_y (wn_none rfl) rfl rfl (yp rfl) ?_
  refine sxl_nil ?_
  refine qx_seq ?_
  refine sx_seq ?_
  refine sx_any 7 (fun w' => Rd w' (some ⟨g2, 0, none⟩) 5 (mcells id nm A l.length c vE vF) ∧ True) hmix ?_
  have HS : Rd w1.drew (some ⟨g2, 0, none⟩) 5 (mcells id nm A l.length c vE vF) ∧ True := ⟨Rd.ofBlk hb2 rfl, trivial⟩
  refine sxo_y 0 5 (by kernel_rfl) (fun c a t v w h => by cases t <;> exact h) (by kernel_rfl) rfl (by kernel_rfl) (by kernel_rfl) rfl (wn_none rfl) rfl rfl HS (fun w' hS' => y_loadRd rfl rfl hS'.1 Tryd.underlying26 rfl model_size) ?_
  refine sxo_y 1 5 (by kernel_rfl) (fun c a t v w h => by cases t <;> exact h) (by kernel_rfl) rfl (by kernel_rfl) (by kernel_rfl) rfl (wn_none rfl) rfl rfl HS (fun w' hS' => yp rfl) ?_
  refine sxo_y 3 5 (by kernel_rfl) (fun c a t v w h => by cases t <;> exact h) (by kernel_rfl) rfl (by kernel_rfl) (by kernel_rfl) rfl (wn_none rfl) rfl rfl HS (fun w' hS' => y_loadRd rfl rfl hS'.1 Tryd.underlying26 rfl model_size) ?_
  refine sxo_y 4 5 (by kernel_rfl) (fun c a t v w h => by cases t <;> exact h) (by kernel_rfl) rfl (by kernel_rfl) (by kernel_rfl) rfl (wn_none rfl) rfl rfl HS (fun w' hS' => yp rfl) ?_
  refine sxo_call 2 (some 7) (by kernel_rfl) rfl (wn_none rfl) rfl rfl (yc_call rfl rfl Tryd.call4) (Sf.fits_ok id nm A B c cp vE vF l p _ hl hp (hrl.fr0 hf1.drew) (hrp.fr0 hf1.drew) (hT.fr hf1.drew)) ?_
  rintro _ w2 ⟨rfl, hf2⟩
  have HS : Rd w2 (some ⟨g2, 0, none⟩) 5 (mcells id nm A l.length c vE vF) ∧ True := ⟨(Rd.ofBlk hb2 rfl).fr0 hf2.ofDrew, trivial⟩
  refine ⟨_, rfl, fun _ => HS, ?_⟩
  have hf12 := hf1.trans hf2.ofDrew
  refine sxo_call 5 (some 10) (by kernel_rfl) rfl (wn_none rfl) rfl rfl (yc_call rfl rfl Tryd.call5) (rFits_ok id nm A B c cp vE vF l p _ hl hp (hrl.fr0 hf12) (hrp.fr0 hf12)) ?_
  rintro _ w3 ⟨rfl, hf3⟩
  have HS : Rd w3 (some ⟨g2, 0, none⟩) 5 (mcells id nm A l.length c vE vF) ∧ True := ⟨((Rd.ofBlk hb2 rfl).fr0 hf2.ofDrew).fr0 hf3, trivial⟩
  refine ⟨_, rfl, fun _ => HS, ?_⟩
  refine sxo_y1 6 (by kernel_rfl) rfl (wn_none rfl) rfl rfl (y_eql_t rfl rfl rfl (by omega)) HS ?_
  refine sxo_seq 7 (by kernel_rfl) rfl rfl (by kernel_rfl) ?_
  refine sxl_y (wn_none rfl) rfl rfl (yp rfl) ?_
  refine sxl_nil ?_
  refine qx_seq ?_
  refine sx_ret ?_
  refine qx_ret1 rfl rfl ?_
  exact ⟨by simp, hf12.trans hf3⟩
end Go.Proofs.YtklciidffdnglaaDoor
namespace Go.Proofs.YtklciidffdnglaaDoor
open Go.ChangeShapes Go.WideShapes Go.ChangeAt Go.RowKit Go.Deep

section
variable {H : Type} {enc : TypeId × Value → H} {P : Program} {w : World}
/-- An element of a slice reads as data. -/
def Reads (enc : TypeId × Value → H) (P : Program) (w : World) (t : TypeId) (r : List Value) (d : DataW H) : Prop := ∃ n p, DataW.trod enc P w 0 (fun _ => true) true n t r = some (d, p)
theorem rd_slice {t e sz len cap fuel : Nat} {A : Option Addr} {x : DataW H × List MemPlace} (ht : P.underlying t = some (.slice e)) (hc : P.cellsOf e = sz) (hpos : 0 < sz)
    (h : DataW.trod enc P w 0 (fun _ => true) true fuel t [.slice A len cap] = some x) :
    ∃ (rows : List (List Value)) (D : List (DataW H)), rows.length = len ∧ D.length = len ∧ All sz rows ∧ Rd w A (len * sz) rows.flatten ∧ len ≤ cap ∧ cap ≤ maxLen ∧ (A = none → cap = 0) ∧
      (∀ (i : Nat) (r : List Value), rows[i]? = some r → ∃ d, D[i]? = some d ∧ Reads enc P w e r d) ∧ ((x.1 = .nil ∧ len = 0 ∧ cap = 0) ∨ ∃ sp, x.1 = .slice D sp ∧ sp.length = cap - len) := by
  rcases open_slice ht h with ⟨hcs, rfl⟩ | ⟨a, len', cap', m, n, D, Pl, hcs, _, hl, hm, hmm, rfl, hx⟩
  · simp only [List.cons.injEq, Value.slice.injEq, and_true] at hcs
    obtain ⟨rfl, rfl, rfl⟩ := hcs
    exact ⟨[], [], rfl, rfl, All.nil, by rw [Nat.zero_mul]; exact Rd.nil, Nat.le_refl _, Nat.zero_le _, fun _ => rfl, fun i r hr => by simp at hr, .inl ⟨rfl, rfl, rfl⟩⟩
  · simp only [List.cons.injEq, Value.slice.injEq, and_true] at hcs
    obtain ⟨rfl, rfl, rfl⟩ := hcs
    simp only [if_true] at hmm
    subst hmm
    obtain ⟨C, hC⟩ := choose_lt (α := List Value) (p := fun i cs => w.cells? 0 (a.add (i * P.cellsOf e)) (P.cellsOf e) = some cs ∧ DataW.trod enc P w 0 (fun _ => true) true n e cs = some (D i, Pl i)) (fun i hi => hx i hi)
    rw [hc] at hC
    have hrow : ∀ i, i < len → (C i).length = sz := fun i hi => (World.cells?_some (hC i (by omega)).1).2.1
    have hall : All sz ((List.range len).map C) := by
      intro r hr
      obtain ⟨i, hi, rfl⟩ := List.mem_map.1 hr
      exact hrow i (List.mem_range.1 hi)
    refine ⟨(List.range len).map C, (List.range len).map D, by simp, by simp, hall, ⟨by rw [flat_length hall]; simp, fun h0 => ?_⟩, hl, hm, by simp, ?_, .inr ⟨_, rfl, by simp⟩⟩
    · have hlen : 0 < len := Nat.pos_of_mul_pos_right h0
      obtain ⟨b, off, sp⟩ := a
      have hsp : sp = none := by
        have h1 := (World.cells?_some (hC 0 (by omega)).1).2.2 0 hpos
        have h2 := (World.cells?_some (hC 0 (by omega)).1).2.1
        rw [List.getElem?_eq_getElem (by omega)] at h1
        cases sp with
        | none => rfl
        | some s =>
          exfalso
          simp only [Nat.zero_mul, Addr.add, if_true, World.cell?] at h1
          split at h1 <;> simp at h1
      subst hsp
      refine ⟨b, off, rfl, fun j u hu => ?_⟩
      have hj : j < len * sz := by have := (List.getElem?_eq_some_iff.1 hu).1; rw [flat_length hall] at this; simpa using this
      have hi : j / sz < len := Nat.div_lt_of_lt_mul (by rw [Nat.mul_comm]; exact hj)
      have hjm : j % sz < sz := Nat.mod_lt _ hpos
      have hat := flat_at hall (i := j / sz) (x := C (j / sz)) (by rw [List.getElem?_map, List.getElem?_range hi]; rfl)
      have hcell := (World.cells?_some (hC (j / sz) (by omega)).1).2.2 (j % sz) hjm
      rw [← hat, List.getElem?_take_of_lt hjm, List.getElem?_drop] at hcell
      have e1 : j / sz * sz + j % sz = j := by rw [Nat.mul_comm]; exact Nat.div_add_mod j sz
      rw [e1, hu, Addr.add_mid, Addr.add_mid, Nat.add_assoc, e1] at hcell
      exact hcell
    · intro i r hr
      have hi : i < len := by have := (List.getElem?_eq_some_iff.1 hr).1; simpa using this
      rw [List.getElem?_map, List.getElem?_range hi] at hr
      simp only [Option.map_some, Option.some.injEq] at hr
      subst hr
      exact ⟨D i, by rw [List.getElem?_map, List.getElem?_range hi]; rfl, n, _, (hC i (by omega)).2⟩
/-- Rows that each are some f p. -/
theorem all_map {α β : Type} (f : β → α) : ∀ (rows : List α), (∀ r ∈ rows, ∃ p, r = f p) → ∃ l : List β, rows = l.map f
  | [], _ => ⟨[], rfl⟩
  | r :: rows, h => by
    obtain ⟨p, hp⟩ := h r (by simp)
    obtain ⟨l, hl⟩ := all_map f rows (fun r hr => h r (by simp [hr]))
    exact ⟨p :: l, by rw [hp, hl]; rfl⟩
theorem u8_of {n : Int} (h : (Lit.int .u8 n).wf = true) : Value.int .u8 n = bv (UInt8.ofNat n.toNat) := by
  have hb := bounds_u8 h
  unfold bv
  congr 1
  rw [UInt8.toNat_ofNat']
  omega
end
end Go.Proofs.YtklciidffdnglaaDoor
namespace Go.Proofs.YtklciidffdnglaaDoor
open Go.ChangeShapes Go.WideShapes Go.ChangeAt Go.RowKit Go.Deep Go.Joins

/-- What is read weighs no more than memory reaches. -/
def Sized {H : Type} (P : Program) (t : TypeId) (d : DataW H) : Prop := ∀ n ∈ d.weights P t, n ≤ reachBytes
theorem weights_mem_all {H : Type} {P : Program} {e : TypeId} : ∀ {ds : List (DataW H)} {d : DataW H}, d ∈ ds → ∀ n ∈ d.weights P e, n ∈ DataW.weightsAll P e ds
  | d0 :: ds, d, hd, n, hn => by
    simp only [DataW.weightsAll, List.mem_append]
    rcases List.mem_cons.1 hd with rfl | hd
    · exact .inl hn
    · exact .inr (weights_mem_all hd n hn)
section
variable {H : Type} {P : Program} {t e : TypeId}
theorem Sized.of {ts : List TypeId} {ds : List (DataW H)} (h : (DataW.weightsEach P ts ds).all (· ≤ reachBytes) = true) {j : Nat} {t : TypeId} {d : DataW H} (ht : ts[j]? = some t) (hd : ds[j]? = some d) : Sized P t d := fun n hn => by
  have := List.all_eq_true.1 h _ (DataW.weights_mem_each ht hd n hn)
  simpa using this
theorem Sized.elem {D sp : List (DataW H)} {d : DataW H} (ht : P.underlying t = some (.slice e)) (h : Sized P t (.slice D sp)) (hd : d ∈ D) : Sized P e d := fun n hn => h n (by
  simp only [DataW.weights, ht, List.mem_cons, List.mem_append]
  exact .inr (.inl (weights_mem_all hd n hn)))
theorem Sized.len {D sp : List (DataW H)} (ht : P.underlying t = some (.slice e)) (hb : 0 < P.bytesOf e) (h : Sized P t (.slice D sp)) : D.length ≤ reachBytes := by
  have := h ((D.length + sp.length) * P.bytesOf e) (by simp [DataW.weights, ht])
  exact Nat.le_trans (Nat.le_trans (Nat.le_add_right _ _) (Nat.le_mul_of_pos_right _ hb)) this
theorem Sized.field {fs : Array Field} {D : List (DataW H)} {j : Nat} {f : Field} {d : DataW H} (ht : P.underlying t = some (.struct fs)) (h : Sized P t (.agg D)) (hf : fs[j]? = some f) (hd : D[j]? = some d) : Sized P f.type d := fun n hn => h n (by
  simp only [DataW.weights, ht]
  exact DataW.weights_mem_each (j := j) (by rw [List.getElem?_map, Array.getElem?_toList, hf]; rfl) hd n hn)
theorem Sized.text {l : List UInt8} (h : Sized (H := H) P t (.lit (.string l))) : l.length ≤ reachBytes := h _ (by simp only [DataW.weights]; exact List.mem_singleton.2 rfl)
end
theorem reach_lt : reachBytes < 4611686018427387904 := by decide
theorem all_map2 {α β : Type} (f : β → α) (Q : β → Prop) : ∀ (rows : List α), (∀ r ∈ rows, ∃ p, r = f p ∧ Q p) → ∃ l : List β, rows = l.map f ∧ ∀ x ∈ l, Q x
  | [], _ => ⟨[], rfl, fun _ h => by cases h⟩
  | r :: rows, h => by
    obtain ⟨p, hp, hq⟩ := h r (by simp)
    obtain ⟨l, hl, hl'⟩ := all_map2 f Q rows (fun r hr => h r (by simp [hr]))
    exact ⟨p :: l, by rw [hp, hl]; rfl, fun x hx => by
      rcases List.mem_cons.1 hx with rfl | hx
      · exact hq
      · exact hl' x hx⟩
theorem cells_bind : Tryd.prog.cellsOf 38 = 5 := by kernel_rfl
theorem cells_value : Tryd.prog.cellsOf 36 = 4 := by kernel_rfl
theorem cells_model : Tryd.prog.cellsOf 26 = 5 := by kernel_rfl
theorem cells_str : Tryd.prog.cellsOf 9 = 1 := by kernel_rfl
theorem cells_u8 : Tryd.prog.cellsOf 5 = 1 := by kernel_rfl
theorem cells_bool : Tryd.prog.cellsOf 4 = 1 := by kernel_rfl
theorem cells_i64 : Tryd.prog.cellsOf 2 = 1 := by kernel_rfl
theorem bytes_bind : 0 < Tryd.prog.bytesOf 38 := by rw [show Tryd.prog.bytesOf 38 = 56 by kernel_rfl]; decide
theorem cells_binds : Tryd.prog.cellsOf 22 = 1 := by kernel_rfl
section
variable {H : Type} {enc : TypeId × Value → H} {w : World}
theorem read_value {r : List Value} {n : Nat} {x : DataW H × List MemPlace} (h : DataW.trod enc Tryd.prog w 0 (fun _ => true) true n 36 r = some x) (hz : Sized Tryd.prog 36 x.1) : ∃ v : Vl, r = v.cells ∧ v.text.length ≤ reachBytes := by
  obtain ⟨y0, y1, y2, y3, m, rfl, hl, h0, h1, h2, h3⟩ := trod_struct4 Tryd.underlying36 h
  rw [cells_value] at hl
  simp only [cells_u8, cells_bool, cells_i64, cells_str] at h0 h1 h2 h3
  obtain ⟨a, ha, _, wa⟩ := DataW.trod_int Tryd.underlying5 h0
  obtain ⟨b, hb, _⟩ := DataW.trod_int Tryd.underlying2 h1
  obtain ⟨c, hc, _⟩ := DataW.trod_bool Tryd.underlying4 h2
  obtain ⟨s, hs, hd, _⟩ := DataW.trod_string Tryd.underlying9 h3
  have hz3 := Sized.field (j := 3) Tryd.underlying36 hz rfl rfl
  rw [hd] at hz3
  match r, hl with
  | [r0, r1, r2, r3], _ =>
    obtain rfl : r0 = _ := by simpa using ha
    obtain rfl : r1 = _ := by simpa using hb
    obtain rfl : r2 = _ := by simpa using hc
    obtain rfl : r3 = _ := by simpa using hs
    exact ⟨⟨UInt8.ofNat a.toNat, b, c, s.data.toList⟩, by rw [u8_of wa]; rfl, hz3.text⟩
theorem read_bind {r : List Value} {d : DataW H} (h : Reads enc Tryd.prog w 38 r d) (hz : Sized Tryd.prog 38 d) : ∃ b : Bd, r = b.cells ∧ b.name.length ≤ reachBytes ∧ b.v.text.length ≤ reachBytes := by
  obtain ⟨n, p, h⟩ := h
  obtain ⟨y0, y1, m, hx, hl, h0, h1⟩ := trod_struct2 Tryd.underlying38 h
  rw [cells_bind] at hl
  simp only [Prod.mk.injEq] at hx
  obtain ⟨rfl, _⟩ := hx
  simp only [cells_value, cells_str] at h0 h1
  obtain ⟨s, hs, hd, _⟩ := DataW.trod_string Tryd.underlying9 h0
  have hz0 := Sized.field (j := 0) Tryd.underlying38 hz rfl rfl
  have hz1 := Sized.field (j := 1) Tryd.underlying38 hz rfl rfl
  rw [hd] at hz0
  obtain ⟨v, hv, hvt⟩ := read_value h1 hz1
  match r, hl with
  | r0 :: r', hl =>
    obtain rfl : r0 = _ := by simpa using hs
    have hl' : r'.length = 4 := by simpa using hl
    have e : r' = v.cells := by
      have e1 : (r'.take 4) = v.cells := hv
      rw [List.take_of_length_le (by omega)] at e1
      exact e1
    exact ⟨⟨s.data.toList, v⟩, by rw [e]; rfl, hz0.text, hvt⟩
/-- A slice of binds that came in. -/
theorem in_binds {A : Option Addr} {len cap fuel : Nat} {x : DataW H × List MemPlace} (h : DataW.trod enc Tryd.prog w 0 (fun _ => true) true fuel 22 [.slice A len cap] = some x) (hz : Sized Tryd.prog 22 x.1) :
    ∃ l : List Bd, l.length = len ∧ BdOk l ∧ Rd w A (l.length * 5) (flatD l) := by
  obtain ⟨rows, D, hl, hD, _, hr, _, _, hn, hx, hd⟩ := rd_slice Tryd.underlying22 cells_bind (by omega) h
  have key : (∀ r ∈ rows, ∃ b : Bd, r = b.cells ∧ (b.name.length ≤ reachBytes ∧ b.v.text.length ≤ reachBytes)) ∧ len ≤ reachBytes := by
    rcases hd with ⟨_, h0, _⟩ | ⟨sp, hs, _⟩
    · have : rows = [] := List.eq_nil_of_length_eq_zero (by omega)
      subst this
      exact ⟨fun r hr => by (cases hr), by omega⟩
    · rw [hs] at hz
      refine ⟨fun r hr => ?_, by rw [← hD]; exact hz.len Tryd.underlying22 bytes_bind⟩
      obtain ⟨i, hi⟩ := List.getElem?_of_mem hr
      obtain ⟨d, hdi, hrd⟩ := hx i r hi
      exact read_bind hrd (hz.elem Tryd.underlying22 (List.mem_of_getElem? hdi))
  obtain ⟨l, rfl, hq⟩ := all_map2 Bd.cells (fun b => b.name.length ≤ reachBytes ∧ b.v.text.length ≤ reachBytes) rows key.1
  rw [List.length_map] at hl
  subst hl
  have hlt := reach_lt
  have hlen := key.2
  exact ⟨l, rfl, ⟨by omega, fun x hx => by have := (hq x hx).1; omega, fun x hx => by have := (hq x hx).2; omega⟩, hr⟩
/-- A model that came in. -/
theorem in_model {r : Reach} {b0 : Nat} {v : Value} {d : DataW H} {p : List MemPlace} (hv : Value.okWide Tryd.prog w r b0 26 v) (h : DataW.Trod enc Tryd.prog w 0 (fun _ => true) true 26 v d p) (hz : Sized Tryd.prog 26 d) :
    ∃ id nm A c vE vF l, v = .agg (mcells id nm A (l : List Bd).length c vE vF).toArray ∧ BdOk l ∧ Rd w A (l.length * 5) (flatD l) := by
  obtain ⟨cs, rfl, hsz⟩ := okWide_struct Tryd.underlying26 hv
  rw [cells_model] at hsz
  obtain ⟨fuel, hf⟩ := h
  obtain ⟨xs, n, _, hx, hl, hlen, hfl⟩ := DataW.trod_struct Tryd.underlying26 hf
  obtain ⟨cs⟩ := cs
  match cs, hsz with
  | [c0, c1, c2, c3, c4], _ =>
  match xs, hlen with
  | [y0, y1, y2, y3, y4], _ =>
    have k0 : DataW.trod enc Tryd.prog w 0 (fun _ => true) true n 9 (List.take (Tryd.prog.cellsOf 9) [c0, c1, c2, c3, c4]) = some y0 := hfl 0 _ rfl
    have k1 : DataW.trod enc Tryd.prog w 0 (fun _ => true) true n 9 (List.take (Tryd.prog.cellsOf 9) [c1, c2, c3, c4]) = some y1 := hfl 1 _ rfl
    have k2 : DataW.trod enc Tryd.prog w 0 (fun _ => true) true n 22 (List.take (Tryd.prog.cellsOf 22) [c2, c3, c4]) = some y2 := hfl 2 _ rfl
    rw [cells_str] at k0 k1
    rw [cells_binds] at k2
    obtain ⟨s0, e0, _, _⟩ := DataW.trod_string Tryd.underlying9 k0
    obtain ⟨s1, e1, _, _⟩ := DataW.trod_string Tryd.underlying9 k1
    obtain rfl : c0 = _ := by simpa using e0
    obtain rfl : c1 = _ := by simpa using e1
    have hz2 : Sized Tryd.prog 22 y2.1 := Sized.field (j := 2) Tryd.underlying26 (by
      injection hx with hx1 hx2
      rw [hx1] at hz
      exact hz) rfl rfl
    obtain ⟨A, len, cap, rfl⟩ : ∃ A len cap, c2 = .slice A len cap := by
      rcases open_slice Tryd.underlying22 k2 with ⟨hcs, _⟩ | ⟨a, len, cap, m, n, D, Pl, hcs, _⟩
      · exact ⟨none, 0, 0, by simpa using hcs⟩
      · exact ⟨some a, len, cap, by simpa using hcs⟩
    obtain ⟨l, rfl, hb, hr⟩ := in_binds k2 hz2
    exact ⟨s0.data.toList, s1.data.toList, A, cap, c3, c4, l, rfl, hb, hr⟩
end
end Go.Proofs.YtklciidffdnglaaDoor
namespace Go.Proofs.YtklciidffdnglaaDoor
open Go.RowKit

theorem witness_zip {H : Type} {enc : TypeId × Value → H} {C : Checked} {os : Os} {f : FuncId} {fn : Func} {s : OpenSpec} {conds : List PathCond} {apart : Bool} {laid : List (String × DataW Unit)} (modest : Bool) (w0 : World) (args : Array Value) (hos : w0.os = os)
    (hv : (w0.forCall (fun _ _ => 0) ⟨#[], args, []⟩).variablesZipB C.prog = true)
    (hr : ((w0.forCall (fun _ _ => 0) ⟨#[], args, []⟩).heap.toList.drop C.prog.globals.size).take ((begin C.prog (fun _ _ => 0) default).world.heap.size - C.prog.globals.size) =
      (begin C.prog (fun _ _ => 0) default).world.heap.toList.drop C.prog.globals.size)
    (hok : Input.okWideB C.prog (w0.forCall (fun _ _ => 0) ⟨#[], args, []⟩) f ⟨#[], args, []⟩ = true)
    (hrow : s.preRow enc C.prog fn conds apart laid (w0.forCall (fun _ _ => 0) ⟨#[], args, []⟩).memory args) :
    ∃ (w : World) (tape : Tape) (i : Input), w.os = os ∧ (w.forCall tape i).Shaped C.prog ∧ i.vars = [] ∧ Input.okWide C.prog (w.forCall tape i) .any w.heap.size f i ∧
      s.preRow enc C.prog fn conds apart laid (w.forCall tape i).memory i.args ∧ ({ modest := modest } : Assume).holds C.prog (lone (Frame.enter C.prog f i.args .normal) [] (w.forCall tape i)) :=
  ⟨w0, fun _ _ => 0, ⟨#[], args, []⟩, hos, World.shaped_of_ZipB hv hr, (Input.okWide_of_okWideB (base := 0) hok).1, (Input.okWide_of_okWideB hok).2, hrow, by
    simp only [Assume.holds]
    exact ⟨by simp, by simp, fun _ => Modest.zero, by simp, by simp⟩⟩
end Go.Proofs.YtklciidffdnglaaDoor
namespace Go.Proofs.YtklciidffdnglaaDoor.mailFits
open Go.ChangeShapes Go.WideShapes Go.ChangeAt Go.RowKit

theorem own : ownKnob Tryd.prog.godebug = none := by kernel_rfl
theorem laidOut : laidOutB Tryd.prog = true := by kernel_rfl
theorem laid_utf {W : World} (hL : laidMetH Tryd.prog Rows.mailFitsRow.laid W) : Laid W utfL :=
  utf_laid (l := Rows.mailFitsRow.laid) (by rw [Go.MakeChecks.laidMetH_plain _ _ _ (by kernel_rfl)] at hL; exact hL) (List.mem_of_getElem? (i := 1) rfl) (List.mem_of_getElem? (i := 0) rfl)
set_option maxRecDepth 100000 in
theorem contract (H : Type) (enc : TypeId × Value → H) (W : World) (base : Nat) (args : Array Value) (ds gs : List (DataW H)) (before : List MemPlace)
    (hval0 : ∀ (j : Nat) t v, Tryd.f3.params[j]? = some t → args[j]? = some v → Value.okWide Tryd.prog W .any base t v)
    (hW : DataW.Whole enc Tryd.prog Tryd.f3.params.toList Rows.mailFitsSpec.vars false W args.toList ds gs before)
    (hsz0 : (DataW.weightsEach Tryd.prog (Tryd.f3.params.toList ++ Rows.mailFitsSpec.plain.varTypes Tryd.prog) (ds ++ gs)).all (· ≤ reachBytes) = true)
    (hL : laidMetH Tryd.prog Rows.mailFitsRow.laid W) :
    Calls Tryd.prog 3 args W fun e W' => ∃ v, e = .returned v ∧ Rows.mailFitsSpec.post enc Tryd.prog Tryd.f3 false true false false W args v W' := by
  have hval := hval0
  have hsz := hsz0
  have hW' := hW
  obtain ⟨p, q, hA0, hV, rfl, hfz, hnd⟩ := hW
  have hA : DataW.TrodAll enc Tryd.prog W 0 (fun _ => true) true Tryd.f3.params.toList args.toList ds p := hA0
  rw [Tryd.params3] at hA hval hsz
  obtain ⟨v0, vs0, d0, ds0, p0, q0, hargs, rfl, rfl, h0, r0⟩ := trodAll_cons hA
  obtain ⟨v1, vs1, d1, ds1, p1, q1, rfl, rfl, rfl, h1, r1⟩ := trodAll_cons r0
  obtain ⟨rfl, rfl, rfl⟩ := trodAll_nil r1
  obtain rfl : args = #[v0, v1] := by cases args; simp_all
  obtain ⟨rfl, rfl⟩ := trodVars_none hV
  obtain ⟨a1, len1, cap1, rfl⟩ := okWide_slice Tryd.underlying22 (hval 1 22 v1 rfl rfl)
  have k0 := h0
  have k1 := h1
  have lt0 : ∀ x ∈ p0, x.block < W.heap.size := by obtain ⟨m, hm⟩ := k0; exact DataW.trod_lt m _ _ _ hm
  have lt1 : ∀ x ∈ p1, x.block < W.heap.size := by obtain ⟨m, hm⟩ := k1; exact DataW.trod_lt m _ _ _ hm
  obtain ⟨id, nm, A, c, vE, vF, l, rfl, hbl, hrl⟩ := in_model (hval 0 26 v0 rfl rfl) h0 (Sized.of hsz (j := 0) rfl rfl)
  obtain ⟨pl, rfl, hbp, hrp⟩ : ∃ l : List Bd, l.length = len1 ∧ BdOk l ∧ Rd W a1 (l.length * 5) (flatD l) := by
    obtain ⟨fuel, hf⟩ := h1
    exact in_binds hf (Sized.of hsz (j := 1) rfl rfl)
  clear hA0 hval0
  refine (mailFits_walk id nm A a1 c cap1 vE vF l pl W hbl hbp hrl hrp (laid_utf hL)).mono fun e W' ⟨he, hf⟩ => ?_
  subst he
  have bel := hf.below
  exact ⟨_, rfl, _, _, _, [], _, [], hW', trodAll_mk1 (shut_bool Tryd.underlying4 _), (trodAll_cons_mk (Below.trod laidOut (by kernel_rfl) (of_decide_eq_true (by kernel_rfl)) k0 bel lt0) (trodAll_cons_mk (Below.trod laidOut (by kernel_rfl) (of_decide_eq_true (by kernel_rfl)) k1 bel lt1) trodAll_mk0)), rfl, bel.frame _, fun h => by cases h⟩

/-- The witness: no model, no patch. -/
def wit : Array Value := #[.agg #[.string ⟨#[]⟩, .string ⟨#[]⟩, .slice none 0 0, .slice none 0 0, .slice none 0 0], .slice none 0 0]
/-- A world for the witness: the settled one, the listed variables holding what is listed. -/
noncomputable def laidWorld (os : Os) : World := World.laidAll Tryd.prog os Rows.mailFitsRow.laid
theorem laid_met (os : Os) : laidMet Tryd.prog Rows.mailFitsRow.laid ((laidWorld os).forCall (fun _ _ => 0) ⟨#[], wit, []⟩).memory :=
  laidMet_laidAll _ (by kernel_rfl) (by kernel_rfl)
def witD {H : Type} : List (DataW H) := [.agg [.lit (.string []), .lit (.string []), .nil, .nil, .nil], .nil]
theorem reads (os : Os) {H : Type} (enc : TypeId × Value → H) : ∃ places, DataW.whole enc Tryd.prog ((laidWorld os).forCall (fun _ _ => 0) ⟨#[], wit, []⟩).memory Tryd.f3.params.toList Rows.mailFitsSpec.vars false wit.toList 8 = some (witD, [], places) :=
  ⟨[], by kernel_rfl⟩
set_option maxRecDepth 100000 in
theorem lifted (os : Os) (started : os.Started) (H : Type) (enc : TypeId × Value → H) (F : Stop.Interp) :
    ReturnsInHanded {} Tryd.checked os 3 .any ((OpenSpec.ofChange Rows.mailFitsSpec).preRow enc Tryd.prog Tryd.f3 Rows.mailFitsRow.domain false Rows.mailFitsRow.laid) (((OpenSpec.ofChange Rows.mailFitsSpec).at F).post enc Tryd.prog Tryd.f3 false true false false) := by
  obtain ⟨places, hx⟩ := reads os enc
  refine returnsInHanded_of_row (C := Tryd.checked) (s := (OpenSpec.ofChange Rows.mailFitsSpec)) own started (by kernel_rfl) Tryd.func3
    (witness_zip (enc := enc) (C := Tryd.checked) false (laidWorld os) wit (World.laidAll_os _ _ _) (by kernel_rfl) (by kernel_rfl) (by kernel_rfl)
      (OpenSpec.preRow_of_cond 8 hx (by kernel_rfl) (fun k hk => by cases hk) (by kernel_rfl) (laid_met os))) ?_
  intro W base args ds gs before hval hW _ hcond hsz hL _ _
  exact contract H enc W base args ds gs before hval hW hsz hL
theorem said : Rows.MailFitsSaid :=
  OpenClaim.holds_of_cond 3 Tryd.f3 rfl rfl rfl rfl rfl rfl rfl ⟨rfl, rfl, rfl, rfl, rfl⟩ rfl rfl rfl rfl rfl (by kernel_rfl) Tryd.func3 (by kernel_rfl)
    (of_decide_eq_true (by kernel_rfl)) (by unfold Func.isWrapper; first | (rw [if_pos (by decide +kernel)]; kernel_rfl) | (rw [if_neg (by decide +kernel)]; exact ⟨rfl, rfl⟩))
    (fun os started H enc _ F => by rw [OpenClaim.pre_eq_preRow]; exact lifted os started H enc F)
theorem plain (f : FuncId) (fn : Func) (hf : Tryd.pinned.checked.prog.funcNamed "tollgate/tollgatelaw23.MailFits" = some f) (hfn : Tryd.pinned.checked.prog.funcs[f]? = some fn) :
    false = Tryd.pinned.checked.prog.looks [] ∧ ∀ (j : Nat) t, fn.params[j]? = some t → Tryd.pinned.checked.prog.wantsStandIn t = false := by
  obtain rfl : f = 3 := Option.some.inj ((show Tryd.prog.funcNamed "tollgate/tollgatelaw23.MailFits" = some 3 by kernel_rfl).symm.trans hf) |>.symm
  obtain rfl : fn = Tryd.f3 := (Option.some.inj (Tryd.func3.symm.trans hfn)).symm
  refine ⟨by kernel_rfl, fun j t ht => ?_⟩
  rw [Tryd.params3] at ht
  match j with
  | 0 => obtain rfl : 26 = t := Option.some.inj ht; show Tryd.prog.wantsStandIn 26 = false; kernel_rfl
  | 1 => obtain rfl : 22 = t := Option.some.inj ht; show Tryd.prog.wantsStandIn 22 = false; kernel_rfl
  | j + 2 => simp at ht
theorem card : Rows.MailFitsCardSaid :=
  Claim7.holds_tied_plain_at .later [] _ _ _ _ said (fun _ h => by cases h) (by kernel_rfl) (fun _ h => by cases h) mailFits_row_tie rfl ⟨rfl, rfl⟩ (by kernel_rfl) rfl plain (by kernel_rfl)
#print axioms card
end Go.Proofs.YtklciidffdnglaaDoor.mailFits
