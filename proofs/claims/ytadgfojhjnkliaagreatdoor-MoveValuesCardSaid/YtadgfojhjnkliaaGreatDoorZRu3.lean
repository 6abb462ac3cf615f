/- The rules of the program: Subs around, rule seven, the rules that are asked of each element: printed by gw/ru3.py. Condition: none. -/
import Derived.Test.YtadgfojhjnkliaaGreatDoorZRu2
import Derived.Test.YtadgfojhjnkliaaGreatDoorZb7
set_option maxHeartbeats 16000000
set_option maxRecDepth 100000
namespace Go.Proofs.YtadgfojhjnkliaaGreatDoor
open Go.RowKit
def FC (els : List El) : Nat → El → List (List UInt8)
 | 0, _ => []
 | f + 1, y => if y.inn = [] then [] else match AT els y.inn with
  | none => []
  | some x => if x.kind.toNat = 10 then x.id :: FC els f x else []
def AP (els : List El) (id : List UInt8) : List (List UInt8) := FC els 64 ((AT els id).getD zeroEl)
theorem UZ (els : List El) {y : El} {n : Nat} (h1 : ¬ y.inn = []) (hn : n < 64) (h2 : (AT els y.inn).isSome = true) (h3 : (((AT els y.inn).getD zeroEl).kind.toNat : Int) = 10) : FC els (64 - n) y = ((AT els y.inn).getD zeroEl).id :: FC els (64 - (n + 1)) ((AT els y.inn).getD zeroEl) := by
 rw [show 64 - n = (64 - (n + 1)) + 1 by omega, FC, if_neg h1]
 cases hx : AT els y.inn with
 | none => rw [hx] at h2; cases h2
 | some x =>
  rw [hx] at h3
  have h3' : x.kind.toNat = 10 := by simp only [Option.getD_some] at h3; omega
  simp only [if_pos h3', Option.getD_some]
theorem UY (els : List El) {y : El} {n : Nat} (h : (AT els y.inn).isSome = false ∨ ¬ (((AT els y.inn).getD zeroEl).kind.toNat : Int) = 10) : FC els n y = [] := by
 cases n with
 | zero => rfl
 | succ n =>
  rw [FC]
  split
  ·rfl
  ·cases hx : AT els y.inn with
   | none => rfl
   | some x =>
    rw [hx] at h
    simp only [Option.isSome_some, Bool.true_eq_false, Option.getD_some, false_or] at h
    simp only
    rw [if_neg (by omega)]
theorem XG (els : List El) {y : El} {n : Nat} (h : y.inn = [] ∨ ¬ (n : Int) < 64) : FC els (64 - n) y = [] := by
 rcases h with h | h
 ·cases 64 - n with
  | zero => rfl
  | succ k => rw [FC, if_pos h]
 ·rw [show 64 - n = 0 by omega]; rfl
theorem OY (els : List El) : ∀ (n : Nat) (y : El), (FC els n y).length ≤ n
 | 0, _ => Nat.le_refl _
 | n + 1, y => by
  rw [FC]
  split
  ·exact Nat.zero_le _
  ·split
   ·exact Nat.zero_le _
   ·split
    ·have := OY els n; simp only [List.length_cons]; exact Nat.succ_le_succ (this _)
    ·exact Nat.zero_le _
theorem KF (els : List El) (id : List UInt8) : (AP els id).length ≤ 64 := OY els 64 _
theorem TM (m : Md) (a : MdA) (ix : IxA) (gx : Nat) (id : List UInt8) (w : World) (_ho : MdOk m) (hx : IxAt w m a ix gx) :
 Calls Tryz.prog 96 #[.pointer (some ⟨gx, 0, none⟩), str id] w fun e w' => ∃ A c, e = .returned (.slice A (AP m.els id).length c) ∧ w'.ownsRow w.heap.size 9 1 (.slice A (AP m.els id).length c) (AP m.els id).length (AS C7 (AP m.els id)) ∧ Fr0 w w' := by
 refine AL (vs := [_, _]) Tryz.func96 rfl Tryz.ntmps96 rfl ?_
 have M := CM w
 refine A9 (A0 (yb rfl (A1 (A2 (A9 (A0 (yb rfl (A1 (A2 (A9 (A9 (A0 (yb rfl (yb rfl (yb rfl ?_)))))))))))))))
 refine yl rfl rfl (Blk.c ((hx.fr0 M.fr).blk) 5 rfl) (yb rfl (ya rfl (C5 rfl rfl rfl Tryz.underlying55 Tryz.underlying9 B4 ((hx.fr0 M.fr).E) (hx.getE _)) (BL M (A4 rfl) rfl rfl 62 rfl [str [], str [], .int .u8 0, str [], str [], str [], .int .u8 0, str [], str [], .int .i64 0, .int .i64 0] B4 rfl fun g6 w1 hg6 M => B8 (cs' := (El.cells ((AT m.els id).getD zeroEl))) M 0 (A4 rfl) rfl rfl rfl rfl rfl AY rfl (AQ rfl) (B3 rfl) rfl fun w2 M => A1 (A2 (AZ ?_)))))
 have M := M.nilOwn 9 1
 refine CO (fun e wr mz => ∃ (y : El) (acc : List (List UInt8)) (A : Option Addr) (c : Nat) (gv : Nat), e = [(0, .pointer (some ⟨gx, 0, none⟩)), (5, .slice A acc.length c), (6, .pointer (some ⟨gv, 0, none⟩))] ∧ Mem w AB [As.own w.heap.size 9 1 (.slice A acc.length c) acc.length (AS C7 acc), As.blk gv 62 (El.cells y)] wr ∧ (acc.length ≤ 64) ∧ (AP m.els id = acc ++ FC m.els (64 - acc.length) y) ∧ mz = 64 - acc.length) ⟨(AT m.els id).getD zeroEl, [], none, 0, g6, rfl, M, Nat.zero_le _, rfl, rfl⟩ ⟨rfl, rfl, rfl, trivial⟩ ?_
 rintro _ w3 _ ⟨y, acc, A, c, gv, rfl, M, hl, hr, rfl⟩
 refine A9 (A9 (A0 (yb rfl (yl rfl rfl (M.cell 1 rfl rfl) (ya rfl (HD rfl rfl rfl) (yb rfl (AV 4 [(0, .pointer (some ⟨gx, 0, none⟩)), (5, .slice A acc.length c), (6, .pointer (some ⟨gv, 0, none⟩)), (22, .bool ((!decide (y.inn = [])) && (decide (((acc.length : Nat) : Int) < (64 : Int)))))] (fun w' => Mem w AB [As.own w.heap.size 9 1 (.slice A acc.length c) acc.length (AS C7 acc), As.blk gv 62 (El.cells y)] w') ?_ (fun k18 => ?_))))))))
 ·intro w4 M
  refine A1 (A2 (AR (b := ((!decide (y.inn = [])) && (decide (((acc.length : Nat) : Int) < (64 : Int))))) rfl (fun h22 => ?_) (fun h22 => ?_)))
  ·have h22p := (And.intro (of_decide_eq_false (C4 (C8 h22).1)) (of_decide_eq_true (C8 h22).2))
   refine AM (A2 (A9 (AZ (A9 (D8 13 (fun w' => Mem w AB [As.own w.heap.size 9 1 (.slice A acc.length c) acc.length (AS C7 acc), As.blk gv 62 (El.cells y)] w') DT ?_)))))
   have M := M.drew
   refine oc 0 13 rfl rfl M (oc 1 13 rfl rfl M (oc 2 13 rfl rfl M (oa 3 13 rfl rfl M (fun _ M => AW rfl rfl (sc rfl) (Blk.c ((hx.fr0 M.fr).blk) 5 rfl)) (oc 4 13 rfl rfl M (oa 5 13 rfl rfl M (fun _ M => AW rfl rfl (sc rfl) (M.cell 1 rfl rfl)) (oa 6 13 rfl rfl M (fun _ M => DE rfl rfl rfl Tryz.underlying55 Tryz.underlying9 B4 ((hx.fr0 M.fr).E) (hx.getE _) (hx.isE _)) (oc 7 13 rfl rfl M (oc 8 13 rfl rfl M (oc 9 13 rfl rfl M (B6 10 (some 7) (by kernel_rfl) rfl (A4 rfl) rfl rfl (fun ρ hρ => C0 62 rfl _ [str [], str [], .int .u8 0, str [], str [], str [], .int .u8 0, str [], str [], .int .i64 0, .int .i64 0] B4 rfl) ?_))))))))))
   rintro _ w5 ⟨g7, rfl, hg7, hq7, hb7, hfw5⟩
   refine ⟨fun _ => M.step hfw5, ?_⟩
   have M := M.push hfw5 _ hb7 (DA hg7 hq7)
   replace M : Mem w AB (As.blk g7 62 [str [], str [], .int .u8 0, str [], str [], str [], .int .u8 0, str [], str [], .int .i64 0, .int .i64 0] :: _) w5 := M
   refine B6 11 none (by kernel_rfl) rfl (A4 rfl) rfl rfl (fun ρ hρ => BT 62 _ _ rfl g7 0 62 _ (El.cells ((AT m.els y.inn).getD zeroEl)) (hρ _ _ rfl) (hρ _ _ rfl) (M.blk 0 rfl) AY (AQ rfl) (B3 rfl)) ?_
   rintro _ w6 ⟨rfl, hbw6, hfw6⟩
   replace M : Mem w AB (List.set _ 0 (As.blk g7 62 (El.cells ((AT m.els y.inn).getD zeroEl)))) w6 := M.putB 0 rfl hbw6 hfw6
   refine ⟨fun _ => M.drop 1, oc 12 13 rfl rfl (M.drop 1) (BM (by kernel_rfl) (A2 (A9 (A9 (A0 (yb rfl (yb rfl (yb rfl (AV 4 [(0, .pointer (some ⟨gx, 0, none⟩)), (5, .slice A acc.length c), (6, .pointer (some ⟨gv, 0, none⟩)), (7, .pointer (some ⟨g7, 0, none⟩)), (39, .bool ((!(AT m.els y.inn).isSome) || (!decide ((((AT m.els y.inn).getD zeroEl).kind.toNat : Int) = (10 : Int)))))] (fun w' => Mem w AB [As.blk g7 62 (El.cells ((AT m.els y.inn).getD zeroEl)), As.own w.heap.size 9 1 (.slice A acc.length c) acc.length (AS C7 acc), As.blk gv 62 (El.cells y)] w') ?_ (fun k35 => ?_))))))))))⟩
   ·intro w7 M
    refine A1 (A2 (AR (b := ((!(AT m.els y.inn).isSome) || (!decide ((((AT m.els y.inn).getD zeroEl).kind.toNat : Int) = (10 : Int))))) rfl (fun h39 => ?_) (fun h39 => ?_)))
    ·have h39p := ((EK h39).imp (fun z => (C4 z)) (fun z => (of_decide_eq_false (C4 z))))
     refine CF (AJ (IW rfl (AJ (AJ (BE (A2 (A9 (A0 (yb rfl (yb rfl (A1 (A2 (AE (AI rfl rfl ?_))))))))))))))
     rw [UY m.els h39p, List.append_nil] at hr
     subst hr
     exact ⟨_, _, rfl, M.own 1 rfl, M.fr⟩
    ·have h39p := (And.intro (C6 (CD h39).1) (of_decide_eq_true (C6 (CD h39).2)))
     refine AM (A2 (A9 (A0 (yb rfl (yb rfl (yl rfl rfl (M.cell 0 rfl rfl) (F1 M (A4 rfl) rfl rfl [str (((AT m.els y.inn).getD zeroEl).id)] ([str (((AT m.els y.inn).getD zeroEl).id)]) rfl rfl rfl rfl Tryz.underlying45 D5 rfl rfl (by intro v hv; simp only [List.mem_cons, List.not_mem_nil, or_false] at hv; rcases hv with rfl <;> rfl) rfl fun g43 w8 hg43 M => EQ (len' := (acc ++ [((AT m.els y.inn).getD zeroEl).id]).length) (xs' := AS C7 (acc ++ [((AT m.els y.inn).getD zeroEl).id])) M 2 (A4 rfl) rfl rfl rfl rfl rfl rfl (M.rdBlk 0 rfl rfl) Tryz.underlying45 CU rfl (by decide) (B3 rfl) (Nat.le_refl _) (Nat.le_refl _) (by first | omega | (simp only [List.length_append, List.length_cons, List.length_nil]; omega)) (by unfold maxLen; first | omega | (simp only [List.length_append, List.length_cons, List.length_nil]; omega)) (by simp) (by simp [AS, C7]) fun A44 c44 w9 M => yb rfl (A1 (A2 (A0 (ya rfl (AO (xs := El.cells ((AT m.els y.inn).getD zeroEl)) rfl rfl (M.rdBlk 1 rfl rfl) Tryz.underlying62 rfl AY) ?_)))))))))))
     refine B8 (cs' := (El.cells ((AT m.els y.inn).getD zeroEl))) M 3 (A4 rfl) rfl rfl rfl rfl rfl AY rfl (AQ rfl) (B3 rfl) rfl fun w10 M => A1 (AD (A2 (A9 (A0 (ya rfl (AO (xs := El.cells ((AT m.els y.inn).getD zeroEl)) rfl rfl (M.rdBlk 3 rfl rfl) Tryz.underlying62 rfl AY) (A1 (A2 (A0 (BL M (A4 rfl) rfl rfl 62 rfl [str [], str [], .int .u8 0, str [], str [], str [], .int .u8 0, str [], str [], .int .i64 0, .int .i64 0] B4 rfl fun g6 w11 hg6 M => B8 (cs' := (El.cells ((AT m.els y.inn).getD zeroEl))) M 0 (A4 rfl) rfl rfl rfl rfl rfl AY rfl (AQ rfl) (B3 rfl) rfl fun w12 M => A1 ?_)))))))))
     have hlen := h22p.2
     refine BP [(0, .pointer (some ⟨gx, 0, none⟩)), (5, .slice A44 (acc ++ [((AT m.els y.inn).getD zeroEl).id]).length c44), (6, .pointer (some ⟨g6, 0, none⟩))] (64 - (acc ++ [((AT m.els y.inn).getD zeroEl).id]).length) ⟨((AT m.els y.inn).getD zeroEl), acc ++ [((AT m.els y.inn).getD zeroEl).id], A44, c44, g6, rfl, (M.pick [3, 0] (by decide)), ?_, ?_, rfl⟩ (by first | omega | (simp only [List.length_append, List.length_cons, List.length_nil]; omega)) ⟨rfl, rfl, rfl, trivial⟩
     ·simp only [List.length_append, List.length_cons, List.length_nil]; omega
     ·rw [hr, UZ m.els h22p.1 (by omega) h39p.1 h39p.2]; simp
   refine AF (d := 35) (b := (!(AT m.els y.inn).isSome)) rfl (fun h35 => ?_) (fun h35 => ?_)
   ·exact yo rfl (yo rfl (yo rfl (yb rfl (k35 _ _ M ⟨rfl, rfl, rfl, rfl, (by rw [h35]; rfl), trivial⟩))))
   ·exact yd rfl (yp rfl) (ym rfl rfl (M.cell 0 rfl rfl) (yd rfl (CX rfl rfl rfl) (yb rfl (k35 _ _ M ⟨rfl, rfl, rfl, rfl, (by rw [h35]; rfl), trivial⟩))))
  ·have h22p := ((E9 h22).imp (fun z => (of_decide_eq_true (C6 z))) (fun z => (of_decide_eq_false z)))
   refine CF (AJ (AJ (BE (A2 (A9 (A0 (yb rfl (yb rfl (A1 (A2 (AE (AI rfl rfl ?_))))))))))))
   rw [XG m.els h22p, List.append_nil] at hr
   subst hr
   exact ⟨_, _, rfl, M.own 0 rfl, M.fr⟩
 refine AF (d := 18) (b := (!decide (y.inn = []))) rfl (fun h18 => ?_) (fun h18 => ?_)
 ·exact yd rfl (yp rfl) (yd rfl (CY rfl rfl (sl rfl)) (yd rfl (CJ rfl rfl rfl) (yb rfl (k18 _ _ M ⟨rfl, rfl, rfl, (by rw [h18]; rfl), trivial⟩))))
 ·exact yo rfl (yo rfl (yo rfl (yb rfl (k18 _ _ M ⟨rfl, rfl, rfl, (by rw [h18]; rfl), trivial⟩))))
def MD (m : Md) (b y : El) : Bool := (if (decide ((y.kind.toNat : Int) = (6 : Int))) = true then ((AP m.els y.id).any (fun z => decide (b.id = z))) else false)
theorem XU (m : Md) (a : MdA) (ix : IxA) (gx gp : Nat) (b : El) (gb : Nat) (y : El) (w : World) (ho : MdOk m) (hx : IxAt w m a ix gx) (hp : Blk w gp 87 [.pointer (some ⟨gx, 0, none⟩)]) (hb : Blk w gb 62 b.cells) :
 Calls Tryz.prog 95 #[.agg y.cells.toArray, .pointer (some ⟨gp, 0, none⟩), .pointer (some ⟨gb, 0, none⟩)] w fun e w' => e = .returned (.bool (MD m b y)) ∧ Fr0 w w' := by
 refine AL (vs := [_, _, _]) Tryz.func95 rfl Tryz.ntmps95 rfl ?_
 have M := CM w
 refine A9 (A0 (BG M (A4 rfl) rfl rfl 62 rfl rfl (El.cells y) rfl fun g3 w1 hg3 M => yb rfl (A1 (A2 (A9 (D8 13 (fun w' => Mem w AB [As.blk g3 62 (El.cells y)] w') DT ?_))))))
 have M := M.drew
 refine oc 0 13 rfl rfl M (oa 1 13 rfl rfl M (fun _ M => AW rfl rfl (sc rfl) (M.cell 0 rfl rfl)) (oa 2 13 rfl rfl M (fun _ M => BC rfl rfl rfl) (oc 3 13 rfl rfl M (HW (d := 8) (b := (decide ((y.kind.toNat : Int) = (6 : Int)))) rfl (fun h8 => ?_) (fun h8 => ?_)))))
 ·have h8p := (of_decide_eq_true h8)
  refine ob 4 13 rfl (BA rfl rfl rfl) rfl rfl M (fun _ M => AW rfl rfl (sc rfl) (Blk.c (hp.fr0 M.fr) 0 rfl)) (ob 5 13 rfl (BA rfl rfl rfl) rfl rfl M (fun _ M => yp rfl) (ob 6 13 rfl (BA rfl rfl rfl) rfl rfl M (fun _ M => AW rfl rfl (sc rfl) (M.cell 0 rfl rfl)) (ob 8 13 rfl (BA rfl rfl rfl) rfl rfl M (fun _ M => yp rfl) (ob 9 13 rfl (BA rfl rfl rfl) rfl rfl M (fun _ M => AW rfl rfl (sc rfl) (Blk.c (hb.fr0 M.fr) 0 rfl)) (D0 7 (some 12) (by kernel_rfl) rfl (BA rfl rfl rfl) rfl rfl (AG rfl rfl Tryz.call96) (TM m a ix gx _ _ ho (hx.fr0 M.fr)) ?_)))))
  rintro _ w2 ⟨A12, c12, rfl, how2, hfw2⟩
  refine ⟨_, rfl, fun _ => M.step hfw2, ?_⟩
  have M := M.pushOwn hfw2 (Nat.le_refl _) how2
  have hL12 := M.ownLen 0 rfl
  refine D0 10 (some 15) (by kernel_rfl) rfl (BA rfl rfl rfl) rfl rfl (AG rfl rfl Tryz.call67) (WZ _ _ (AP m.els y.id) _ _ (by have hL := M.ownLen 0 rfl; have := KF m.els y.id; omega) (M.rdOwn 0 rfl)) ?_
  rintro _ w3 ⟨rfl, hfw3⟩
  refine ⟨_, rfl, fun _ => (M.drop 1).step hfw3, ?_⟩
  have M := M.step hfw3
  exact oc 11 13 rfl rfl (M.drop 1) (oc 12 13 rfl rfl (M.drop 1) (BM (by kernel_rfl) (A2 (AE (AI rfl rfl ⟨by rw [MD, if_pos h8], M.fr⟩)))))
 ·have h8p := (of_decide_eq_false h8)
  exact oo1 4 13 rfl rfl rfl rfl rfl rfl rfl M (oo1 5 13 rfl rfl rfl rfl rfl rfl rfl M (oo1 6 13 rfl rfl rfl rfl rfl rfl rfl M (oo1 7 13 rfl rfl rfl rfl rfl rfl rfl M (oo1 8 13 rfl rfl rfl rfl rfl rfl rfl M (oo1 9 13 rfl rfl rfl rfl rfl rfl rfl M (oo1 10 13 rfl rfl rfl rfl rfl rfl rfl M (oc 11 13 rfl rfl M (oc 12 13 rfl rfl M (BM (by kernel_rfl) (A2 (AE (AI rfl rfl ⟨by rw [MD, if_neg (BD h8)], M.fr⟩))))))))))))
def JI (m : Md) (y : El) : Bool := (if (!decide ((y.kind.toNat : Int) = (9 : Int))) = true then true else (if ((!(AT m.els y.att).isSome) || (!decide (((AT m.els y.att).getD zeroEl).inn = y.inn))) = true then false else (if ((decide ((((AT m.els y.att).getD zeroEl).kind.toNat : Int) = (3 : Int))) || (decide ((((AT m.els y.att).getD zeroEl).kind.toNat : Int) = (4 : Int)))) = true then true else (if ((!decide ((((AT m.els y.att).getD zeroEl).kind.toNat : Int) = (10 : Int))) || (decide ((y.ev.toNat : Int) = (1 : Int)))) = true then false else (!(m.els.any (MD m ((AT m.els y.att).getD zeroEl))))))))
theorem cQ (m : Md) (a : MdA) (ix : IxA) (gx gp : Nat) (y : El) (w : World) (oy : ElOk y) (ho : MdOk m) (hx : IxAt w m a ix gx) (hp : Blk w gp 87 [.pointer (some ⟨gx, 0, none⟩)]) :
 Calls Tryz.prog 93 #[.agg y.cells.toArray, .pointer (some ⟨gp, 0, none⟩)] w fun e w' => e = .returned (.bool (JI m y)) ∧ Fr0 w w' := by
 have oy3 := oy.ref
 have oy4 := oy.key
 have oy5 := oy.id
 have oy6 := oy.nm
 have oy7 := oy.inn
 have oy8 := oy.att
 refine AL (vs := [_, _]) Tryz.func93 rfl Tryz.ntmps93 rfl ?_
 have M := CM w
 refine A9 (A0 (BG M (A4 rfl) rfl rfl 62 rfl rfl (El.cells y) rfl fun g2 w1 hg2 M => yb rfl (A1 (A2 (A9 (D8 13 (fun w' => Mem w AB [As.blk g2 62 (El.cells y)] w') DT ?_))))))
 have M := M.drew
 refine oa 0 13 rfl rfl M (fun _ M => AW rfl rfl (sc rfl) (Blk.c (hp.fr0 M.fr) 0 rfl)) (oc 1 13 rfl rfl M (oc 2 13 rfl rfl M (oa 3 13 rfl rfl M (fun _ M => AW rfl rfl (sc rfl) (Blk.c ((hx.fr0 M.fr).blk) 5 rfl)) (oc 4 13 rfl rfl M (oa 5 13 rfl rfl M (fun _ M => AW rfl rfl (sc rfl) (M.cell 0 rfl rfl)) (oa 6 13 rfl rfl M (fun _ M => DE rfl rfl rfl Tryz.underlying55 Tryz.underlying9 B4 ((hx.fr0 M.fr).E) (hx.getE _) (hx.isE _)) (oc 7 13 rfl rfl M (oc 8 13 rfl rfl M (oc 9 13 rfl rfl M (B6 10 (some 4) (by kernel_rfl) rfl (A4 rfl) rfl rfl (fun ρ hρ => C0 62 rfl _ [str [], str [], .int .u8 0, str [], str [], str [], .int .u8 0, str [], str [], .int .i64 0, .int .i64 0] B4 rfl) ?_))))))))))
 rintro _ w2 ⟨g4, rfl, hg4, hq4, hb4, hfw2⟩
 refine ⟨fun _ => M.step hfw2, ?_⟩
 have M := M.push hfw2 _ hb4 (DA hg4 hq4)
 replace M : Mem w AB (As.blk g4 62 [str [], str [], .int .u8 0, str [], str [], str [], .int .u8 0, str [], str [], .int .i64 0, .int .i64 0] :: _) w2 := M
 refine B6 11 none (by kernel_rfl) rfl (A4 rfl) rfl rfl (fun ρ hρ => BT 62 _ _ rfl g4 0 62 _ (El.cells ((AT m.els y.att).getD zeroEl)) (hρ _ _ rfl) (hρ _ _ rfl) (M.blk 0 rfl) AY (AQ rfl) (B3 rfl)) ?_
 rintro _ w3 ⟨rfl, hbw3, hfw3⟩
 replace M : Mem w AB (List.set _ 0 (As.blk g4 62 (El.cells ((AT m.els y.att).getD zeroEl)))) w3 := M.putB 0 rfl hbw3 hfw3
 refine ⟨fun _ => M.drop 1, oc 12 13 rfl rfl (M.drop 1) (BM (by kernel_rfl) (A2 (A9 (AZ (A9 (A0 (yb rfl (yl rfl rfl (M.cell 1 rfl rfl) (ya rfl (CX rfl rfl rfl) (yb rfl (A1 (A2 (AR (b := (!decide ((y.kind.toNat : Int) = (9 : Int)))) rfl (fun h16 => ?_) (fun h16 => ?_))))))))))))))⟩
 ·have h16p := (of_decide_eq_false (C4 h16))
  exact A9 (A0 (yb rfl (A1 (A2 (AE (AK (AA (AI rfl rfl ⟨by rw [JI, if_pos h16], M.fr⟩))))))))
 ·have h16p := (of_decide_eq_true (C6 h16))
  refine A9 (A0 (yb rfl (yb rfl (yb rfl (AV 6 [(1, .pointer (some ⟨gp, 0, none⟩)), (2, .pointer (some ⟨g2, 0, none⟩)), (4, .pointer (some ⟨g4, 0, none⟩)), (29, .bool ((!(AT m.els y.att).isSome) || (!decide (((AT m.els y.att).getD zeroEl).inn = y.inn))))] (fun w' => Mem w AB [As.blk g4 62 (El.cells ((AT m.els y.att).getD zeroEl)), As.blk g2 62 (El.cells y)] w') ?_ (fun k23 => ?_))))))
  ·intro w4 M
   refine yb rfl (A1 (A2 (AR (b := ((!(AT m.els y.att).isSome) || (!decide (((AT m.els y.att).getD zeroEl).inn = y.inn)))) rfl (fun h20 => ?_) (fun h20 => ?_))))
   ·have h20p := ((EK h20).imp (fun z => (C4 z)) (fun z => (of_decide_eq_false (C4 z))))
    exact A9 (A0 (yb rfl (A1 (A2 (AE (AK (AA (AI rfl rfl ⟨by rw [JI, if_neg (BD h16), if_pos h20], M.fr⟩))))))))
   ·have h20p := (And.intro (C6 (CD h20).1) (of_decide_eq_true (C6 (CD h20).2)))
    refine A9 (A0 (yb rfl (yl rfl rfl (M.cell 0 rfl rfl) (ya rfl (BC rfl rfl rfl) (yb rfl (AV 4 [(1, .pointer (some ⟨gp, 0, none⟩)), (2, .pointer (some ⟨g2, 0, none⟩)), (4, .pointer (some ⟨g4, 0, none⟩)), (38, .bool ((decide ((((AT m.els y.att).getD zeroEl).kind.toNat : Int) = (3 : Int))) || (decide ((((AT m.els y.att).getD zeroEl).kind.toNat : Int) = (4 : Int)))))] (fun w' => Mem w AB [As.blk g4 62 (El.cells ((AT m.els y.att).getD zeroEl)), As.blk g2 62 (El.cells y)] w') ?_ (fun k34 => ?_)))))))
    ·intro w5 M
     refine yb rfl (A1 (A2 (AR (b := ((decide ((((AT m.els y.att).getD zeroEl).kind.toNat : Int) = (3 : Int))) || (decide ((((AT m.els y.att).getD zeroEl).kind.toNat : Int) = (4 : Int))))) rfl (fun h30 => ?_) (fun h30 => ?_))))
     ·have h30p := ((EK h30).imp (fun z => (of_decide_eq_true z)) (fun z => (of_decide_eq_true z)))
      exact A9 (A0 (yb rfl (A1 (A2 (AE (AK (AA (AI rfl rfl ⟨by rw [JI, if_neg (BD h16), if_neg (BD h20), if_pos h30], M.fr⟩))))))))
     ·have h30p := (And.intro (of_decide_eq_false (CD h30).1) (of_decide_eq_false (CD h30).2))
      refine A9 (A0 (yb rfl (yl rfl rfl (M.cell 0 rfl rfl) (ya rfl (CX rfl rfl rfl) (yb rfl (AV 4 [(1, .pointer (some ⟨gp, 0, none⟩)), (4, .pointer (some ⟨g4, 0, none⟩)), (47, .bool ((!decide ((((AT m.els y.att).getD zeroEl).kind.toNat : Int) = (10 : Int))) || (decide ((y.ev.toNat : Int) = (1 : Int)))))] (fun w' => Mem w AB [As.blk g4 62 (El.cells ((AT m.els y.att).getD zeroEl)), As.blk g2 62 (El.cells y)] w') ?_ (fun k43 => ?_)))))))
      ·intro w6 M
       refine yb rfl (A1 (A2 (AR (b := ((!decide ((((AT m.els y.att).getD zeroEl).kind.toNat : Int) = (10 : Int))) || (decide ((y.ev.toNat : Int) = (1 : Int))))) rfl (fun h39 => ?_) (fun h39 => ?_))))
       ·have h39p := ((EK h39).imp (fun z => (of_decide_eq_false (C4 z))) (fun z => (of_decide_eq_true z)))
        exact A9 (A0 (yb rfl (A1 (A2 (AE (AK (AA (AI rfl rfl ⟨by rw [JI, if_neg (BD h16), if_neg (BD h20), if_neg (BD h30), if_pos h39], M.fr⟩))))))))
       ·have h39p := (And.intro (of_decide_eq_true (C6 (CD h39).1)) (of_decide_eq_false (CD h39).2))
        refine AM (AD (A2 (A9 (A0 (yl rfl rfl (Blk.c (hp.fr0 M.fr) 0 rfl) (yb rfl (yb rfl (yb rfl (yl rfl rfl (Blk.c ((hx.fr0 M.fr).blk) 3 rfl) (ya rfl (CT (us := []) (vs := [.pointer (some ⟨gp, 0, none⟩), .pointer (some ⟨g4, 0, none⟩)]) rfl rfl rfl) (AC (some 54) (A4 rfl) rfl rfl (AG rfl rfl Tryz.call94) (p5 _ _ m.els (by have := EY m.fls; have := DM m.fls; have := ho.nfls; have := ho.nels; have := ho.nvars; first | omega | exact Nat.le_trans (EY _ _) (by omega) | exact Nat.le_trans (DM _ _) (by omega)) 95 [.pointer (some ⟨gp, 0, none⟩), .pointer (some ⟨g4, 0, none⟩)] (MD m ((AT m.els y.att).getD zeroEl)) _ (GE Tryz.call95 (fun z hz w9 hf9 => XU m a ix gx gp ((AT m.els y.att).getD zeroEl) _ z w9 ho ((hx.fr0 M.fr).fr0 hf9) ((hp.fr0 M.fr).fr0 hf9) ((M.blk 0 rfl).fr0 hf9))) (M.rd hx.md.els)) ?_)))))))))))
        rintro _ w7 ⟨rfl, hfw7⟩
        refine ⟨_, rfl, ?_⟩
        have M := M.step hfw7
        exact yb rfl (yb rfl (A1 (A2 (AE (AI rfl rfl ⟨by rw [JI, if_neg (BD h16), if_neg (BD h20), if_neg (BD h30), if_neg (BD h39)], M.fr⟩)))))
      refine AF (d := 43) (b := (!decide ((((AT m.els y.att).getD zeroEl).kind.toNat : Int) = (10 : Int)))) rfl (fun h43 => ?_) (fun h43 => ?_)
      ·exact yo rfl (yo rfl (yo rfl (yb rfl (k43 _ _ M ⟨rfl, rfl, (by rw [h43]; rfl), trivial⟩))))
      ·exact yd rfl (yp rfl) (ym rfl rfl (M.cell 1 rfl rfl) (yd rfl (BC rfl rfl rfl) (yb rfl (k43 _ _ M ⟨rfl, rfl, (by rw [h43]; rfl), trivial⟩))))
    refine AF (d := 34) (b := (decide ((((AT m.els y.att).getD zeroEl).kind.toNat : Int) = (3 : Int)))) rfl (fun h34 => ?_) (fun h34 => ?_)
    ·exact yo rfl (yo rfl (yo rfl (yb rfl (k34 _ _ M ⟨rfl, rfl, rfl, (by rw [h34]; rfl), trivial⟩))))
    ·exact yd rfl (yp rfl) (ym rfl rfl (M.cell 0 rfl rfl) (yd rfl (BC rfl rfl rfl) (yb rfl (k34 _ _ M ⟨rfl, rfl, rfl, (by rw [h34]; rfl), trivial⟩))))
  refine AF (d := 23) (b := (!(AT m.els y.att).isSome)) rfl (fun h23 => ?_) (fun h23 => ?_)
  ·iterate 5 refine yo rfl ?_
   exact yb rfl (k23 _ _ M ⟨rfl, rfl, rfl, (by rw [h23]; rfl), trivial⟩)
  ·exact yd rfl (yp rfl) (ym rfl rfl (M.cell 0 rfl rfl) (yd rfl (yp rfl) (ym rfl rfl (M.cell 1 rfl rfl) (yd rfl (HD rfl rfl rfl) (yb rfl (k23 _ _ M ⟨rfl, rfl, rfl, (by rw [h23]; rfl), trivial⟩))))))
def IU (r : Option (List UInt8)) : Value := .tuple #[str (r.getD []), .bool r.isSome]
def ffE (p : El → Bool) (l : List El) : Option (List UInt8) := (ffN (fun _ => p) 0 l).map (·.id)
def ffF (p : Fl → Bool) (l : List Fl) : Option (List UInt8) := (ffN (fun _ => p) 0 l).map (·.id)
theorem R9 (p : El → Bool) (l : List El) : Value.tuple #[str ((ffN (fun _ => p) 0 l).elim [] (fun x => x.id)), .bool (ffN (fun _ => p) 0 l).isSome] = IU (ffE p l) := by unfold IU ffE; cases ffN (fun _ => p) 0 l <;> rfl
theorem jZ (p : Fl → Bool) (l : List Fl) : Value.tuple #[str ((ffN (fun _ => p) 0 l).elim [] (fun x => x.id)), .bool (ffN (fun _ => p) 0 l).isSome] = IU (ffF p l) := by unfold IU ffF; cases ffN (fun _ => p) 0 l <;> rfl
theorem mD (m : Md) (a : MdA) (ix : IxA) (gx : Nat) (w : World) (ho : MdOk m) (hx : IxAt w m a ix gx) :
 Calls Tryz.prog 32 #[.pointer (some ⟨gx, 0, none⟩)] w fun e w' => e = .returned (IU (ffE (cF m) m.els)) ∧ Fr0 w w' := by
 refine AL (vs := [_]) Tryz.func32 rfl Tryz.ntmps32 rfl ?_
 have M := CM w
 refine A9 (A0 (BG M (A4 rfl) rfl rfl 87 rfl rfl ([.pointer (some ⟨gx, 0, none⟩)]) rfl fun g1 w1 hg1 M => yb rfl (yb rfl (A1 (A2 (A9 (A0 (yl rfl rfl (M.cell 0 rfl rfl) (yb rfl (yb rfl (yb rfl (yl rfl rfl (Blk.c ((hx.fr0 M.fr).blk) 3 rfl) (ya rfl (CT (us := []) (vs := [.pointer (some ⟨g1, 0, none⟩)]) rfl rfl rfl) ?_)))))))))))))
 refine AC (some 10) (A4 rfl) rfl rfl (AG rfl rfl Tryz.call74) (HY _ _ m.els (by have := ho.nfls; have := ho.nels; have := ho.nvars; omega) 80 [.pointer (some ⟨g1, 0, none⟩)] (cF m) _ (GE Tryz.call80 (fun z hz w9 hf9 => mE m a ix gx _ z w9 (ho.els z hz) ho ((hx.fr0 M.fr).fr0 hf9) ((M.blk 0 rfl).fr0 hf9))) (M.rd hx.md.els)) ?_
 rintro _ w2 ⟨rfl, hfw2⟩
 refine ⟨_, rfl, ?_⟩
 have M := M.step hfw2
 iterate 4 refine yb rfl ?_
 exact A1 (A2 (AE (C1 rfl rfl rfl ⟨congrArg Ending.returned (R9 _ _), M.fr⟩)))
theorem cI (m : Md) (a : MdA) (ix : IxA) (gx : Nat) (w : World) (ho : MdOk m) (hx : IxAt w m a ix gx) :
 Calls Tryz.prog 33 #[.pointer (some ⟨gx, 0, none⟩)] w fun e w' => e = .returned (IU (ffF (PT m) m.fls)) ∧ Fr0 w w' := by
 refine AL (vs := [_]) Tryz.func33 rfl Tryz.ntmps33 rfl ?_
 have M := CM w
 refine A9 (A0 (BG M (A4 rfl) rfl rfl 87 rfl rfl ([.pointer (some ⟨gx, 0, none⟩)]) rfl fun g1 w1 hg1 M => yb rfl (yb rfl (A1 (A2 (A9 (A0 (yl rfl rfl (M.cell 0 rfl rfl) (yb rfl (yb rfl (yb rfl (yl rfl rfl (Blk.c ((hx.fr0 M.fr).blk) 4 rfl) (ya rfl (CT (us := []) (vs := [.pointer (some ⟨g1, 0, none⟩)]) rfl rfl rfl) ?_)))))))))))))
 refine AC (some 10) (A4 rfl) rfl rfl (AG rfl rfl Tryz.call77) (T6 _ _ m.fls (by have := ho.nfls; have := ho.nels; have := ho.nvars; omega) 82 [.pointer (some ⟨g1, 0, none⟩)] (PT m) _ (GE Tryz.call82 (fun z hz w9 hf9 => cJ m a ix gx _ z w9 ho ((hx.fr0 M.fr).fr0 hf9) ((M.blk 0 rfl).fr0 hf9))) (M.rd hx.md.fls)) ?_
 rintro _ w2 ⟨rfl, hfw2⟩
 refine ⟨_, rfl, ?_⟩
 have M := M.step hfw2
 iterate 4 refine yb rfl ?_
 exact A1 (A2 (AE (C1 rfl rfl rfl ⟨congrArg Ending.returned (jZ _ _), M.fr⟩)))
theorem jN (m : Md) (a : MdA) (ix : IxA) (gx : Nat) (w : World) (ho : MdOk m) (hx : IxAt w m a ix gx) :
 Calls Tryz.prog 34 #[.pointer (some ⟨gx, 0, none⟩)] w fun e w' => e = .returned (IU (ffE (L5 m) m.els)) ∧ Fr0 w w' := by
 refine AL (vs := [_]) Tryz.func34 rfl Tryz.ntmps34 rfl ?_
 have M := CM w
 refine A9 (A0 (BG M (A4 rfl) rfl rfl 87 rfl rfl ([.pointer (some ⟨gx, 0, none⟩)]) rfl fun g1 w1 hg1 M => yb rfl (yb rfl (A1 (A2 (A9 (A0 (yl rfl rfl (M.cell 0 rfl rfl) (yb rfl (yb rfl (yb rfl (yl rfl rfl (Blk.c ((hx.fr0 M.fr).blk) 3 rfl) (ya rfl (CT (us := []) (vs := [.pointer (some ⟨g1, 0, none⟩)]) rfl rfl rfl) ?_)))))))))))))
 refine AC (some 10) (A4 rfl) rfl rfl (AG rfl rfl Tryz.call74) (HY _ _ m.els (by have := ho.nfls; have := ho.nels; have := ho.nvars; omega) 83 [.pointer (some ⟨g1, 0, none⟩)] (L5 m) _ (GE Tryz.call83 (fun z hz w9 hf9 => eD m a ix gx _ z w9 (ho.els z hz) ho ((hx.fr0 M.fr).fr0 hf9) ((M.blk 0 rfl).fr0 hf9))) (M.rd hx.md.els)) ?_
 rintro _ w2 ⟨rfl, hfw2⟩
 refine ⟨_, rfl, ?_⟩
 have M := M.step hfw2
 iterate 4 refine yb rfl ?_
 exact A1 (A2 (AE (C1 rfl rfl rfl ⟨congrArg Ending.returned (R9 _ _), M.fr⟩)))
theorem cP (m : Md) (a : MdA) (ix : IxA) (gx : Nat) (w : World) (ho : MdOk m) (hx : IxAt w m a ix gx) :
 Calls Tryz.prog 37 #[.pointer (some ⟨gx, 0, none⟩)] w fun e w' => e = .returned (IU (ffE (JI m) m.els)) ∧ Fr0 w w' := by
 refine AL (vs := [_]) Tryz.func37 rfl Tryz.ntmps37 rfl ?_
 have M := CM w
 refine A9 (A0 (BG M (A4 rfl) rfl rfl 87 rfl rfl ([.pointer (some ⟨gx, 0, none⟩)]) rfl fun g1 w1 hg1 M => yb rfl (yb rfl (A1 (A2 (A9 (A0 (yl rfl rfl (M.cell 0 rfl rfl) (yb rfl (yb rfl (yb rfl (yl rfl rfl (Blk.c ((hx.fr0 M.fr).blk) 3 rfl) (ya rfl (CT (us := []) (vs := [.pointer (some ⟨g1, 0, none⟩)]) rfl rfl rfl) ?_)))))))))))))
 refine AC (some 10) (A4 rfl) rfl rfl (AG rfl rfl Tryz.call74) (HY _ _ m.els (by have := ho.nfls; have := ho.nels; have := ho.nvars; omega) 93 [.pointer (some ⟨g1, 0, none⟩)] (JI m) _ (GE Tryz.call93 (fun z hz w9 hf9 => cQ m a ix gx _ z w9 (ho.els z hz) ho ((hx.fr0 M.fr).fr0 hf9) ((M.blk 0 rfl).fr0 hf9))) (M.rd hx.md.els)) ?_
 rintro _ w2 ⟨rfl, hfw2⟩
 refine ⟨_, rfl, ?_⟩
 have M := M.step hfw2
 iterate 4 refine yb rfl ?_
 exact A1 (A2 (AE (C1 rfl rfl rfl ⟨congrArg Ending.returned (R9 _ _), M.fr⟩)))
theorem eJ (m : Md) (a : MdA) (ix : IxA) (gx : Nat) (w : World) (ho : MdOk m) (hx : IxAt w m a ix gx) :
 Calls Tryz.prog 38 #[.pointer (some ⟨gx, 0, none⟩)] w fun e w' => e = .returned (IU (ffE (RC m) m.els)) ∧ Fr0 w w' := by
 refine AL (vs := [_]) Tryz.func38 rfl Tryz.ntmps38 rfl ?_
 have M := CM w
 refine A9 (A0 (BG M (A4 rfl) rfl rfl 87 rfl rfl ([.pointer (some ⟨gx, 0, none⟩)]) rfl fun g1 w1 hg1 M => yb rfl (yb rfl (A1 (A2 (A9 (A0 (yl rfl rfl (M.cell 0 rfl rfl) (yb rfl (yb rfl (yb rfl (yl rfl rfl (Blk.c ((hx.fr0 M.fr).blk) 3 rfl) (ya rfl (CT (us := []) (vs := [.pointer (some ⟨g1, 0, none⟩)]) rfl rfl rfl) ?_)))))))))))))
 refine AC (some 10) (A4 rfl) rfl rfl (AG rfl rfl Tryz.call74) (HY _ _ m.els (by have := ho.nfls; have := ho.nels; have := ho.nvars; omega) 97 [.pointer (some ⟨g1, 0, none⟩)] (RC m) _ (GE Tryz.call97 (fun z hz w9 hf9 => eK m a ix gx _ z w9 (ho.els z hz) ho ((hx.fr0 M.fr).fr0 hf9) ((M.blk 0 rfl).fr0 hf9))) (M.rd hx.md.els)) ?_
 rintro _ w2 ⟨rfl, hfw2⟩
 refine ⟨_, rfl, ?_⟩
 have M := M.step hfw2
 iterate 4 refine yb rfl ?_
 exact A1 (A2 (AE (C1 rfl rfl rfl ⟨congrArg Ending.returned (R9 _ _), M.fr⟩)))
end Go.Proofs.YtadgfojhjnkliaaGreatDoor
