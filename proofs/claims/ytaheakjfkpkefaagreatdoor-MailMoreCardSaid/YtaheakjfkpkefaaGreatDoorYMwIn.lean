/- Lemmas that the last text rests on. Condition: each says its own. -/
import Derived.Test.YtaheakjfkpkefaaGreatDoorYMw10
import Derived.SizedLaws
import Derived.Lib.SmallJoins
import Derived.ChangeArms
set_option maxHeartbeats 16000000
set_option maxRecDepth 100000
namespace Go.Proofs.YtaheakjfkpkefaaGreatDoor
open Go.RowKit
open Tryz
def lV (m : Md) (l : List Bd) (next clock : Int) : Bool := ((((!(HP l m.vars)) || (decide (next < (0 : Int)))) || (decide ((2147483647 : Int) ≤ next))) || (decide (clock < (0 : Int)))) || (decide ((1099511627776 : Int) < clock))
def lU (m : Md) (l : List Bd) (next clock : Int) : Bool := !(lV m l next clock)
theorem pJ {m : Md} {l : List Bd} {next clock : Int} (h : lV m l next clock = false) : HP l m.vars = true ∧ 0 ≤ next ∧ next < 2147483647 := by
 unfold lV at h
 simp only [Bool.or_eq_false_iff, decide_eq_false_iff_not, Bool.not_eq_false'] at h
 exact ⟨h.1.1.1.1, by omega, by omega⟩
theorem oF {α : Type} {p : α → Bool} {l : List α} (h : ∃ x ∈ l, p x = true) : ∀ i : Nat, ∃ j x, ixJ (fun (_ : Nat) => p) i l = ((i + j : Nat) : Int) ∧ l[j]? = some x ∧ p x = true := by
 induction l with
 | nil => obtain ⟨x, hx, _⟩ := h; cases hx
 | cons b r ih =>
  intro i
  unfold ixJ
  by_cases hb : p b = true
  ·exact ⟨0, b, by rw [if_pos hb]; rfl, rfl, hb⟩
  ·rw [if_neg hb]
   obtain ⟨x, hx, hp⟩ := h
   rcases List.mem_cons.1 hx with rfl | hx
   ·exact absurd hp hb
   ·obtain ⟨j, a, h1, h2, h3⟩ := ih ⟨x, hx, hp⟩ (i + 1)
    exact ⟨j + 1, a, by rw [h1]; congr 1; omega, by simpa using h2, h3⟩
theorem lT {m : Md} (R : Rl m) : ∃ j x, ixJ (fun (_ : Nat) (x : El) => (decide ((x.kind.toNat : Int) = 1) && decide (x.inn = []))) 0 m.els = ((j : Nat) : Int) ∧ m.els[j]? = some x ∧ x.kind.toNat = 1 ∧ x.inn = [] := by
 have h5 := R.five [] List.mem_cons_self
 unfold RV at h5
 simp only [Bool.and_eq_true, decide_eq_true_eq] at h5
 have h1 : 0 < cntK 1 m.els [] := by omega
 unfold cntK at h1
 obtain ⟨x, hx⟩ := List.exists_mem_of_length_pos h1
 obtain ⟨hx1, hx2⟩ := List.mem_filter.1 hx
 simp only [Bool.and_eq_true, decide_eq_true_eq] at hx2
 obtain ⟨j, y, h1, h2, h3⟩ := oF (p := fun x : El => (decide ((x.kind.toNat : Int) = 1) && decide (x.inn = []))) ⟨x, hx1, by simp [hx2.1, hx2.2]⟩ 0
 simp only [Bool.and_eq_true, decide_eq_true_eq] at h3
 exact ⟨j, y, by rw [h1, Nat.zero_add], h2, by omega, h3.2⟩
theorem KR (a0 : Int) (a1 : List UInt8) (A3 : Option Addr) (n3 c3 : Nat) : prog.built 33 [(0, AA a0), (1, str a1), (3, .slice A3 n3 c3)] = some #[AA a0, str a1, .int .u8 0, .slice A3 n3 c3, .slice none 0 0] := by kernel_rfl
theorem eT (x : El) (w : World) :
 Calls prog 64 #[.agg x.cells.toArray] w (BN w (.bool (decide ((x.kind.toNat : Int) = 1) && decide (x.inn = [])))) := by
 refine BL func64 ntmps64 rfl fun M => srg (DD M rfl rfl fun g1 w1 hg1 M => AG rfl (AC rfl (B2 M 0 rfl rfl rfl (C7 rfl rfl (yb rfl (fvm M 4 [2] [(10, .bool ((decide ((x.kind.toNat : Int) = 1)) && (decide (x.inn = []))))] ?_ (fun k6 => ?_)))))))
 ·intro w2 M
  exact yb rfl (gnr (gr1 rfl ⟨rfl, M.fr⟩))
 refine AD (d := 6) rfl (fun h6 => ?_) (fun h6 => ?_)
 ·exact gyq rfl (C3 M 0 rfl rfl rfl (yd rfl (CS rfl rfl rfl) (yb rfl (k6 M ⟨rfl, (by rw [h6]; rfl), trivial⟩))))
 ·exact yo rfl (yo rfl (yo rfl (yb rfl (k6 M ⟨rfl, (by rw [h6]; rfl), trivial⟩))))
theorem eS (m : Md) (gc : Nat) (c : CrA) (F : List Nat) (l : List Bd) (V : Option Addr) (vc : Nat) (next clock : Int) (w : World) (ho : MdOk m) (R : Rl m) (hC : CourseN w m gc c F) (hok : BdOk l) (hV : Rd w V (l.length * 5) (AB Bd.cells l)) (hY : Lay0 w) {Q : Nat → Prop} (hS : SK Q) (hps : QO w m gc c V vc l) (hQ : ∀ x ∈ m.els, x.kind.toNat = 1 → ∀ z, (c.outs x.id)[0]? = some z → ∀ σ', Rn m c l (K4 [] z [x.id]) σ' → Q (σ'.on ++ σ'.done).length) :
 Calls prog 36 #[pg gc, .slice V l.length vc, AA next, AA clock] w fun e w' => Fr0 w w' ∧ ((e = .returned (.tuple #[.agg zMvd.toArray, AA 1]) ∧ lU m l next clock = false) ∨ (lU m l next clock = true ∧ ∃ x ∈ m.els, x.kind.toNat = 1 ∧ x.inn = [] ∧ ∀ w2, SM w.heap.size [] w' w2 → MvD m c ⟨next + 1, m.id, 0, l, []⟩ [] (((c.outs x.id)[0]?).getD []) [x.id] (next + 1) clock e w2)) := by
 have Z := hC.cz
 have hne := ho.nels
 refine BL func36 ntmps36 rfl fun M => srg (CO M rfl HI fun g8 w1 hg8 M => AG rfl (sx_seq (AC rfl (ya rfl (IC rfl rfl rfl (pt rfl)) (nq (sx_false rfl ?_))))))
 refine sx_skip (qx_seq (sx_seq (AC rfl (yb rfl (DV M 17 rfl rfl call30 (ZA m gc c F l V vc _ (hC.fr0 M.fr) hok (hV.fr0 M.fr) (hY.fr0 M.fr)) fun w2 M => AV rfl rfl (fvm M 3 [8, 3, 2, 1, 0] [(22, .bool ((!(HP l m.vars)) || (decide (next < (0 : Int)))))] ?_ (fun k19 => ?_)))))))
 ·intro w3 M
  refine yb rfl (fvm M 3 [8, 3, 2, 1, 0] [(26, .bool (((!(HP l m.vars)) || (decide (next < (0 : Int)))) || (decide ((2147483647 : Int) ≤ next))))] ?_ (fun k23 => ?_))
  ·intro w4 M
   refine yb rfl (fvm M 3 [8, 3, 2, 1, 0] [(30, .bool ((((!(HP l m.vars)) || (decide (next < (0 : Int)))) || (decide ((2147483647 : Int) ≤ next))) || (decide (clock < (0 : Int)))))] ?_ (fun k27 => ?_))
   ·intro w5 M
    refine yb rfl (fvm M 3 [8, 3, 2, 1, 0] [(34, .bool (((((!(HP l m.vars)) || (decide (next < (0 : Int)))) || (decide ((2147483647 : Int) ≤ next))) || (decide (clock < (0 : Int)))) || (decide ((1099511627776 : Int) < clock))))] ?_ (fun k31 => ?_))
    ·intro w6 M
     refine nq (AF rfl (fun h34 => ?_) (fun h34 => ?_))
     ·have h34p := ((E6 h34).imp (fun z => ((E6 z).imp (fun z => ((E6 z).imp (fun z => ((E6 z).imp (fun z => (BY z)) (fun z => (odt z)))) (fun z => (odt z)))) (fun z => (odt z)))) (fun z => (odt z)))
      exact srg (ya rfl (AY (parts := []) rfl rfl (JH)) (C2 M 0 rfl rfl CD rfl fun w7 M => yb rfl (gnr (qx_then_ret (E3 rfl rfl (M.rdBlk 0 rfl rfl) underlying50 rfl CD rfl ⟨M.fr, .inl ⟨rfl, by rw [lU, lV, h34]; rfl⟩⟩)))))
     ·have h34p := (And.intro (And.intro (And.intro (And.intro (BJ (BT (BT (BT (BT h34).1).1).1).1) (odf (BT (BT (BT (BT h34).1).1).1).2)) (odf (BT (BT (BT h34).1).1).2)) (odf (BT (BT h34).1).2)) (odf (BT h34).2))
      obtain ⟨hvE, hn1, hn2⟩ := pJ (m := m) (l := l) (next := next) (clock := clock) h34
      have hvl : l.length ≤ 1000 := by rw [XR hvE]; have := R.lens.2.2; omega
      refine sx_skip (qx_seq (srg ?_))
      iterate 4 refine yb rfl ?_
      refine yl rfl rfl (Blk.c ((hC.fr0 M.fr).blk) 3 rfl) (cl 41 rfl (AE rfl rfl call63) (QG El.cells El.len c.a.E c.a.ec m.els A0 64 [] (fun (_ : Nat) (x : El) => (decide ((x.kind.toNat : Int) = 1) && decide (x.inn = []))) AM (fun _ _ => True) _ (G3 call64 (fun x _ w9 _ => eT x w9)) (fun _ hf9 => (hC.fr0 M.fr).md.md.els.fr0 hf9) trivial) ?_)
      rintro _ w8 ⟨rfl, _, hfw8⟩
      refine ⟨_, rfl, ?_⟩
      have M := M.step hfw8
      obtain ⟨j, x, hj, hx, hx1, hx2⟩ := lT R
      have hxm : x ∈ m.els := List.mem_of_getElem? hx
      have hjl : j < m.els.length := (List.getElem?_eq_some_iff.1 hx).1
      rw [hj]
      obtain ⟨b_x, o_x, hA_x⟩ := B7 (k := 11) A0 ((hC.fr0 M.fr).md.md.els) hx
      have hz0 := QK R Z hxm A0
      refine AG rfl (srg ?_)
      iterate 4 refine yb rfl ?_
      refine yl rfl rfl (Blk.c ((hC.fr0 M.fr).blk) 3 rfl) (yb rfl (ya rfl (AP j hA_x rfl rfl rfl (sl rfl) A0) (yb rfl (yl rfl rfl (E5 El.len ((hC.fr0 M.fr).md.md.els) hA_x hx 0 rfl) (AG rfl (sx_seq (I6 M 26 CL fun M => oc 0 26 rfl rfl M (oc 1 26 rfl rfl M (oa 2 26 rfl rfl M (fun _ M => GD rfl rfl rfl A0) (oc 3 26 rfl rfl M (oc 4 26 rfl rfl M (oc 5 26 rfl rfl M ?_))))))))))))
      refine oc 6 26 rfl rfl M (ol 7 26 rfl rfl rfl M (fun _ M => (Blk.c ((hC.fr0 M.fr).blk) 0 rfl)) (oc 8 26 rfl rfl M (oa 9 26 rfl rfl M (fun _ M => AY (parts := [(0, _), (1, _), (3, _)]) rfl rfl (KR _ _ _ _ _)) (oc 10 26 rfl rfl M (oc 11 26 rfl rfl M (oc 12 26 rfl rfl M (ol 13 26 rfl rfl rfl M (fun _ M => (Blk.c ((hC.fr0 M.fr).blk) 8 rfl)) (oc 14 26 rfl rfl M (oa 15 26 rfl rfl M (fun _ M => BD rfl rfl rfl underlying87 underlying9 EO ((hC.fr0 M.fr).O) (hC.getO _)) ?_)))))))))
      obtain ⟨z, hz⟩ := BZ (l := (c.outs x.id)) (i := 0) A0
      obtain ⟨b_z, o_z, hA_z⟩ := B7 (k := 1) A0 ((hC.fr0 M.fr).rdO _) hz
      refine oa 16 26 rfl rfl M (fun _ M => AP 0 hA_z rfl rfl rfl (sl rfl) A0) (ol 17 26 rfl rfl rfl M (fun _ M => (E5 FD ((hC.fr0 M.fr).rdO _) hA_z hz 0 rfl)) (oc 18 26 rfl rfl M (oc 20 26 rfl rfl M (oa 21 26 rfl rfl M (fun _ M => GD rfl rfl rfl A0) (oc 22 26 rfl rfl M (AR 19 (some 70) gkr rfl (wn_none rfl) rfl rfl (fun ρ hρ => CM [str x.id] _ hρ rfl rfl rfl rfl underlying48 CP AU AU (EZ rfl)) ?_))))))
      rintro _ w9 ⟨g70, rfl, hg70, hq70, hb70, hfw9⟩
      replace hb70 : Blk w9 g70 9 ([str x.id]) := hb70
      refine ⟨fun _ => M.step hfw9, ?_⟩
      have M := M.push hfw9 _ hb70 (DF hg70 hq70)
      replace M : Mem w AM (As.blk g70 9 ([str x.id]) :: _) w9 := M
      have M := M.blkOwn 0 (size := 1) (n := 1) rfl rfl (by unfold maxLen; omega)
      have M := M.nilOwn 56 9
      have M2 := M.pk [1, 0, 2]
      refine C5 23 (some 74) gkr rfl (wn_none rfl) rfl rfl (AE rfl rfl call27) (cS w m gc c F (⟨next + 1, m.id, 0, l, []⟩ : In) V none none (some ⟨g70, 0, none⟩) vc 0 0 1 _ _ [] z [x.id] (next + 1) clock _ _ ho R hvl hV hC M.fr M2.new2 (fun t ht _ => by cases ht) (OD R Z (List.mem_of_getElem? hz)) (Nat.zero_le _) (by show 1 ≤ 2; decide) A0 A0 M2.self2 hS hps (fun _ hr => hQ x hxm hx1 _ hz _ hr)) ?_
      rintro e9 w10 ⟨hfw10, hres⟩
      have M := M2.swap2 hfw10 hres
      obtain ⟨a0, a1, a2, W0, wn, wc, X0, xn, xc, a5, Y0, yn, yc, er, rfl, her⟩ := MvD.shape (hres _ fun _ _ _ => rfl)
      refine ⟨_, rfl, fun _ => (M.drop 1), ?_⟩
      refine oc 24 26 rfl rfl (M.drop 1) (oc 25 26 rfl rfl (M.drop 1) (AR 26 none gkr rfl (wn_none rfl) rfl rfl (fun ρ hρ => BH 50 _ _ rfl g8 0 50 _ ([AA a0, str a1, .int .u8 a2, .slice W0 wn wc, .slice X0 xn xc, AA a5, .slice Y0 yn yc]) (hρ _ _ rfl) (hρ _ _ rfl) (M.blk 1 rfl) CD (D0 rfl) (BG rfl)) ?_))
      rintro _ w11 ⟨rfl, hbw11, hfw11⟩
      replace M : Mem w AM (List.set _ 1 (As.blk g8 50 [AA a0, str a1, .int .u8 a2, .slice W0 wn wc, .slice X0 xn xc, AA a5, .slice Y0 yn yc])) w11 := M.putB 1 rfl hbw11 hfw11
      exact ⟨fun h => absurd h AU, fo1 27 rfl rfl (yp rfl) (fdn (qx_seq (sx_ret (E3 rfl rfl (M.rdBlk 1 rfl rfl) underlying50 rfl CD rfl ⟨M.fr, .inr ⟨by rw [lU, lV, h34]; rfl, x, hxm, hx1, hx2, by rw [hz]; exact M.resA 0 rfl⟩⟩))))⟩
    refine AD (d := 31) rfl (fun h31 => ?_) (fun h31 => ?_)
    ·exact yo rfl (yo rfl (yb rfl (k31 M ⟨rfl, rfl, rfl, rfl, rfl, (by rw [h31]; rfl), trivial⟩)))
    ·exact gyq rfl (yd rfl (G9 rfl rfl rfl) (yb rfl (k31 M ⟨rfl, rfl, rfl, rfl, rfl, (by rw [h31]; rfl), trivial⟩)))
   refine AD (d := 27) rfl (fun h27 => ?_) (fun h27 => ?_)
   ·exact yo rfl (yo rfl (yb rfl (k27 M ⟨rfl, rfl, rfl, rfl, rfl, (by rw [h27]; rfl), trivial⟩)))
   ·exact gyq rfl (yd rfl (EQ rfl rfl rfl) (yb rfl (k27 M ⟨rfl, rfl, rfl, rfl, rfl, (by rw [h27]; rfl), trivial⟩)))
  refine AD (d := 23) rfl (fun h23 => ?_) (fun h23 => ?_)
  ·exact yo rfl (yo rfl (yb rfl (k23 M ⟨rfl, rfl, rfl, rfl, rfl, (by rw [h23]; rfl), trivial⟩)))
  ·exact gyq rfl (yd rfl (GK rfl rfl rfl) (yb rfl (k23 M ⟨rfl, rfl, rfl, rfl, rfl, (by rw [h23]; rfl), trivial⟩)))
 refine AD (d := 19) rfl (fun h19 => ?_) (fun h19 => ?_)
 ·exact yo rfl (yo rfl (yb rfl (k19 M ⟨rfl, rfl, rfl, rfl, rfl, (by rw [h19]; rfl), trivial⟩)))
 ·exact gyq rfl (yd rfl (EQ rfl rfl rfl) (yb rfl (k19 M ⟨rfl, rfl, rfl, rfl, rfl, (by rw [h19]; rfl), trivial⟩)))
theorem qT {m : Md} {c : CrA} {vs : List Bd} {σ0 τ1 : Mo} {a0 : Ar} (h0 : σ0.on = [a0]) (hP : ∀ b τ', Pd m c vs σ0 0 a0 (OA c a0) b τ' → τ' = τ1) (h1 : τ1.on = []) {σ' : Mo} (h : Rn m c vs σ0 σ') : σ' = σ0 ∨ σ' = τ1 := by
 induction h with
 | refl => exact .inl rfl
 | step _ hi hs hp ih =>
  rename_i τ τ' i a b _
  rcases ih with rfl | rfl
  ·rw [h0] at hi
   cases i with
   | succ i => simp at hi
   | zero =>
    simp only [List.getElem?_cons_zero, Option.some.injEq] at hi
    subst hi
    exact .inr (hP b τ' hp)
  ·rw [h1] at hi; cases hi
theorem r9 {c : CrA} {on : List Ar} {a : Ar} {x : El} (hx : OA c a = x) (hs : a.stops = false) (hk : x.kind.toNat ≠ 6) : ¬ Stl c on a := fun h => by
 rcases h with h | h
 ·rw [hs] at h; cases h
 ·rw [hx] at h; exact hk h.1
structure MdStr (m : Md) : Prop where
 id : (m.id.length : Int) < 4611686018427387904
 nm : (m.nm.length : Int) < 4611686018427387904
 vars : BdOk m.vars
 els : ∀ x ∈ m.els, ElOk x
 fls : ∀ x ∈ m.fls, FlOk x
theorem IT (a0 : List UInt8) (a2 : Int) : prog.built 95 [(0, str a0), (2, .int .u8 a2)] = some #[str a0, str [], .int .u8 a2, str [], str [], str [], .int .u8 0, str [], str [], AA 0, AA 0] := by kernel_rfl
theorem J7 (a0 : List UInt8) (a1 : List UInt8) (a2 : List UInt8) : prog.built 109 [(0, str a0), (1, str a1), (2, str a2)] = some #[str a0, str a1, str a2, str []] := by kernel_rfl
theorem Q2 : (prog.info? 95).map (fun i => (i.zero, i.size)) = some (some (.agg #[str [], str [], .int .u8 0, str [], str [], str [], .int .u8 0, str [], str [], AA 0, AA 0]), 11) := by kernel_rfl
open Go.ChangeShapes Go.WideShapes Go.ChangeAt Go.RowKit Go.Deep Go.Joins
section
def Sized {H : Type} (P : Program) (t : TypeId) (d : DataW H) : Prop := ∀ n ∈ d.weights P t, n ≤ reachBytes
theorem KK {H : Type} {P : Program} {e : TypeId} : ∀ {ds : List (DataW H)} {d : DataW H}, d ∈ ds → ∀ n ∈ d.weights P e, n ∈ DataW.weightsAll P e ds
 | d0 :: ds, d, hd, n, hn => by
  simp only [DataW.weightsAll, List.mem_append]
  rcases List.mem_cons.1 hd with rfl | hd
  ·exact .inl hn
  ·exact .inr (KK hd n hn)
section
variable {H : Type} {P : Program} {t e : TypeId}
theorem Sized.of {ts : List TypeId} {ds : List (DataW H)} (h : (DataW.weightsEach P ts ds).all (· ≤ reachBytes) = true) {j : Nat} {t : TypeId} {d : DataW H} (ht : ts[j]? = some t) (hd : ds[j]? = some d) : Sized P t d := fun n hn => by
 have := List.all_eq_true.1 h _ (DataW.weights_mem_each ht hd n hn)
 simpa using this
theorem Sized.elem {D sp : List (DataW H)} {d : DataW H} (ht : P.underlying t = some (.slice e)) (h : Sized P t (.slice D sp)) (hd : d ∈ D) : Sized P e d := fun n hn => h n (by
 simp only [DataW.weights, ht, List.mem_cons, List.mem_append]
 exact .inr (.inl (KK hd n hn)))
theorem Sized.len {D sp : List (DataW H)} (ht : P.underlying t = some (.slice e)) (hb : 0 < P.bytesOf e) (h : Sized P t (.slice D sp)) : D.length ≤ reachBytes := by
 have := h ((D.length + sp.length) * P.bytesOf e) (by simp [DataW.weights, ht])
 exact Nat.le_trans (Nat.le_trans (Nat.le_add_right _ _) (Nat.le_mul_of_pos_right _ hb)) this
theorem Sized.field {fs : Array Field} {D : List (DataW H)} {j : Nat} {f : Field} {d : DataW H} (ht : P.underlying t = some (.struct fs)) (h : Sized P t (.agg D)) (hf : fs[j]? = some f) (hd : D[j]? = some d) : Sized P f.type d := fun n hn => h n (by
 simp only [DataW.weights, ht]
 exact DataW.weights_mem_each (j := j) (by rw [List.getElem?_map, Array.getElem?_toList, hf]; rfl) hd n hn)
theorem Sized.text {l : List UInt8} (h : Sized (H := H) P t (.lit (.string l))) : l.length ≤ reachBytes := h _ (by simp only [DataW.weights]; exact List.mem_singleton.2 rfl)
end
theorem R6 : reachBytes < 4611686018427387904 := by decide
theorem IU {α β : Type} (f : β → α) (Q : β → Prop) : ∀ (rows : List α), (∀ r ∈ rows, ∃ p, r = f p ∧ Q p) → ∃ l : List β, rows = l.map f ∧ ∀ x ∈ l, Q x
 | [], _ => ⟨[], rfl, fun _ h => by cases h⟩
 | r :: rows, h => by
  obtain ⟨p, hp, hq⟩ := h r (by simp)
  obtain ⟨l, hl, hl'⟩ := IU f Q rows (fun r hr => h r (by simp [hr]))
  exact ⟨p :: l, by rw [hp, hl]; rfl, fun x hx => by
   rcases List.mem_cons.1 hx with rfl | hx
   ·exact hq
   ·exact hl' x hx⟩
theorem N4 : prog.cellsOf 103 = 5 := by kernel_rfl
theorem PU : prog.cellsOf 100 = 4 := by kernel_rfl
theorem XF : prog.cellsOf 62 = 5 := by kernel_rfl
theorem CV : prog.cellsOf 9 = 1 := by kernel_rfl
theorem OF : prog.cellsOf 5 = 1 := by kernel_rfl
theorem YZ : prog.cellsOf 4 = 1 := by kernel_rfl
theorem eK : prog.cellsOf 2 = 1 := by kernel_rfl
theorem Z0 : 0 < prog.bytesOf 103 := by rw [show prog.bytesOf 103 = 56 by kernel_rfl]; decide
theorem LL : prog.cellsOf 24 = 1 := by kernel_rfl
section
variable {H : Type} {enc : TypeId × Value → H} {w : World}
theorem Y6 {r : List Value} {n : Nat} {x : DataW H × List MemPlace} (h : DataW.trod enc prog w 0 (fun _ => true) true n 100 r = some x) (hz : Sized prog 100 x.1) : ∃ v : Vl, r = v.cells ∧ v.text.length ≤ reachBytes := by
 obtain ⟨y0, y1, y2, y3, m, rfl, hl, h0, h1, h2, h3⟩ := trod_struct4 underlying100 h
 rw [PU] at hl
 simp only [OF, YZ, eK, CV] at h0 h1 h2 h3
 obtain ⟨a, ha, _, wa⟩ := DataW.trod_int underlying5 h0
 obtain ⟨b, hb, _⟩ := DataW.trod_int underlying2 h1
 obtain ⟨c, hc, _⟩ := DataW.trod_bool underlying4 h2
 obtain ⟨s, hs, hd, _⟩ := DataW.trod_string underlying9 h3
 have hz3 := Sized.field (j := 3) underlying100 hz rfl rfl
 rw [hd] at hz3
 match r, hl with
 | [r0, r1, r2, r3], _ =>
  obtain rfl : r0 = _ := by simpa using ha
  obtain rfl : r1 = _ := by simpa using hb
  obtain rfl : r2 = _ := by simpa using hc
  obtain rfl : r3 = _ := by simpa using hs
  exact ⟨⟨UInt8.ofNat a.toNat, b, c, s.data.toList⟩, by rw [VQ wa]; rfl, hz3.text⟩
theorem cD {r : List Value} {d : DataW H} (h : SL enc prog w 103 r d) (hz : Sized prog 103 d) : ∃ b : Bd, r = b.cells ∧ b.name.length ≤ reachBytes ∧ b.v.text.length ≤ reachBytes := by
 obtain ⟨n, p, h⟩ := h
 obtain ⟨y0, y1, m, hx, hl, h0, h1⟩ := trod_struct2 underlying103 h
 rw [N4] at hl
 simp only [Prod.mk.injEq] at hx
 obtain ⟨rfl, _⟩ := hx
 simp only [PU, CV] at h0 h1
 obtain ⟨s, hs, hd, _⟩ := DataW.trod_string underlying9 h0
 have hz0 := Sized.field (j := 0) underlying103 hz rfl rfl
 have hz1 := Sized.field (j := 1) underlying103 hz rfl rfl
 rw [hd] at hz0
 obtain ⟨v, hv, hvt⟩ := Y6 h1 hz1
 match r, hl with
 | r0 :: r', hl =>
  obtain rfl : r0 = _ := by simpa using hs
  have hl' : r'.length = 4 := by simpa using hl
  have e : r' = v.cells := by
   have e1 : (r'.take 4) = v.cells := hv
   rw [List.take_of_length_le A0] at e1
   exact e1
  exact ⟨⟨s.data.toList, v⟩, by rw [e]; rfl, hz0.text, hvt⟩
theorem RO {A : Option Addr} {len cap fuel : Nat} {x : DataW H × List MemPlace} (h : DataW.trod enc prog w 0 (fun _ => true) true fuel 24 [.slice A len cap] = some x) (hz : Sized prog 24 x.1) :
 ∃ l : List Bd, l.length = len ∧ BdOk l ∧ Rd w A (l.length * 5) (RU l) := by
 obtain ⟨rows, D, hl, hD, _, hr, _, _, hn, hx, hd⟩ := IG underlying24 N4 A0 h
 have key : (∀ r ∈ rows, ∃ b : Bd, r = b.cells ∧ (b.name.length ≤ reachBytes ∧ b.v.text.length ≤ reachBytes)) ∧ len ≤ reachBytes := by
  rcases hd with ⟨_, h0, _⟩ | ⟨sp, hs, _⟩
  ·have : rows = [] := List.eq_nil_of_length_eq_zero A0
   subst this
   exact ⟨fun r hr => by (cases hr), by omega⟩
  ·rw [hs] at hz
   refine ⟨fun r hr => ?_, by rw [← hD]; exact hz.len underlying24 Z0⟩
   obtain ⟨i, hi⟩ := List.getElem?_of_mem hr
   obtain ⟨d, hdi, hrd⟩ := hx i r hi
   exact cD hrd (hz.elem underlying24 (List.mem_of_getElem? hdi))
 obtain ⟨l, rfl, hq⟩ := IU Bd.cells (fun b => b.name.length ≤ reachBytes ∧ b.v.text.length ≤ reachBytes) rows key.1
 rw [List.length_map] at hl
 subst hl
 have hlt := R6
 have hlen := key.2
 exact ⟨l, rfl, ⟨by omega, fun x hx => by have := (hq x hx).1; omega, fun x hx => by have := (hq x hx).2; omega⟩, hr⟩
end
end
end Go.Proofs.YtaheakjfkpkefaaGreatDoor
