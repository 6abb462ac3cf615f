/- Lemmas that the last text rests on. Condition: each says its own. -/
import Derived.Test.YtaheakjfkpkefaaGreatDoorYb5
set_option maxHeartbeats 16000000
set_option maxRecDepth 100000
namespace Go.Proofs.YtaheakjfkpkefaaGreatDoor
open Go.RowKit
open Tryz
def TY (s : List UInt8) (gx : Nat) (w : World) (r : Xn × Lx) : Ending → World → Prop := fun e w' => ∃ A F, e = .returned (.agg (r.1.cells A).toArray) ∧ r.1.AtL 112 w' A F ∧ (∀ k ∈ F, w.heap.size ≤ k ∧ k < w'.heap.size) ∧ Blk w' gx 168 (Lx.cells s r.2) ∧ Fr (fun k => k = gx) w w'
structure PE (s : List UInt8) (w : World) (gx c5 c6 c7 c8 c9 c10 : Nat) : Prop where
 b5 : Blk w c5 164 [.pointer (some ⟨gx, 0, none⟩)]
 b6 : Blk w c6 169 [.func (.func 86) #[] #[.pointer (some ⟨c5, 0, none⟩), .pointer (some ⟨c10, 0, none⟩), .pointer (some ⟨c6, 0, none⟩)]]
 b7 : Blk w c7 170 [.func (.func 81) #[] #[.pointer (some ⟨c5, 0, none⟩), .pointer (some ⟨c6, 0, none⟩)]]
 b8 : Blk w c8 172 [.func (.func 82) #[] #[.pointer (some ⟨c5, 0, none⟩)]]
 b9 : Blk w c9 172 [.func (.func 84) #[] #[.pointer (some ⟨c5, 0, none⟩), .pointer (some ⟨c6, 0, none⟩)]]
 b10 : Blk w c10 169 [.func (.func 85) #[] #[.pointer (some ⟨c5, 0, none⟩), .pointer (some ⟨c7, 0, none⟩), .pointer (some ⟨c9, 0, none⟩), .pointer (some ⟨c8, 0, none⟩)]]
 n : ¬ c5 = gx ∧ ¬ c6 = gx ∧ ¬ c7 = gx ∧ ¬ c8 = gx ∧ ¬ c9 = gx ∧ ¬ c10 = gx
 g : nGlob ≤ gx
 len : s.length ≤ 256
theorem PE.fr {s : List UInt8} {w w' : World} {gx c5 c6 c7 c8 c9 c10 : Nat} (h : PE s w gx c5 c6 c7 c8 c9 c10) (hf : Fr (fun k => k = gx) w w') : PE s w' gx c5 c6 c7 c8 c9 c10 :=
 ⟨h.b5.fr hf h.n.1, h.b6.fr hf h.n.2.1, h.b7.fr hf h.n.2.2.1, h.b8.fr hf h.n.2.2.2.1, h.b9.fr hf h.n.2.2.2.2.1, h.b10.fr hf h.n.2.2.2.2.2, h.n, h.g, h.len⟩
structure FromOK (s : List UInt8) (gx c5 c6 c7 c8 c9 c10 : Nat) (f : Nat) (fr : Nat → Lx → Xn × Lx) : Prop where
 I : FrI s f fr
 call : ∀ (line : Nat) (x : Lx) (w : World), line ≤ 7 → Blk w gx 168 (Lx.cells s x) → LxI s x → lxM s x ≤ f → PE s w gx c5 c6 c7 c8 c9 c10 → Lay0 w →
  Calls prog 86 #[.int .i64 (line : Int), .pointer (some ⟨c5, 0, none⟩), .pointer (some ⟨c10, 0, none⟩), .pointer (some ⟨c6, 0, none⟩)] w (TY s gx w (fr line x))
theorem JV (a0 : Int) (A3 : Option Addr) (n3 c3 : Nat) : prog.built 112 [(0, .int .u8 a0), (3, .slice A3 n3 c3)] = some #[.int .u8 a0, .int .u8 0, AA 0, .bool false, str [], str [], .slice A3 n3 c3] := by kernel_rfl
theorem ML : (prog.info? 112).map (fun i => (i.zero, i.size)) = some (some (.agg #[.int .u8 0, .int .u8 0, AA 0, .bool false, str [], str [], .slice none 0 0]), 7) := by kernel_rfl
theorem CR : (prog.info? 112).map (·.zero) = some (some (.agg #[.int .u8 0, .int .u8 0, AA 0, .bool false, str [], str [], .slice none 0 0])) := by kernel_rfl
theorem TE {s : List UInt8} {gx c5 c6 c7 c8 c9 c10 : Nat} {f : Nat} {fr : Nat → Lx → Xn × Lx} (hF : FromOK s gx c5 c6 c7 c8 c9 c10 f fr) (op : UInt8) (line : Nat) (hl : line ≤ 7) (x : Lx) (w : World) (hb : Blk w gx 168 (Lx.cells s x)) (hx : LxI s x) (he : x.e = 0) (hs : ¬ x.say = []) (hm : lxM s x ≤ f + 1) (hE : PE s w gx c5 c6 c7 c8 c9 c10) (hY : Lay0 w) :
 Calls prog 81 #[.int .u8 (op.toNat : Int), AA (line : Int), pg c5, pg c6] w (TY s gx w (KH s fr op line x)) := by
 have hGx : ∀ k, k = gx → nGlob ≤ k := fun _ e => e ▸ hE.g
 have hst := JR hx he hs
 refine sx_enter (vs := [_, _, _, _]) func81 rfl ntmps81 rfl ?_
 have M : Mem w (fun k => k = gx) [As.blk gx 168 (Lx.cells s x)] w := Mem.one hb
 refine srg (CO M rfl CR fun g6 w1 hg6 M => EF (yl rfl rfl (Blk.c ((hE.fr M.fr).b5) 0 rfl) (cl 8 rfl (AE rfl rfl call80) (GF s x _ _ (M.blk 1 rfl) hx.at_ hE.len (hY.fr M.fr hGx) hE.g) ?_)))
 rintro _ w2 ⟨rfl, hbw2, hfw2⟩
 have M := M.putB 1 rfl hbw2 hfw2
 refine ⟨_, rfl, nq (AC rfl (yl rfl rfl (Blk.c ((hE.fr M.fr).b6) 0 rfl) (yb rfl (cl 12 rfl (BC rfl rfl rfl call86) (hF.call line (B8 s x) _ A0 (M.blk 1 rfl) DX A0 (hE.fr M.fr) (hY.fr M.fr hGx)) ?_))))⟩
 rintro _ w3 ⟨A12, F12, rfl, hat12, hnw12, hbw3, hfw3⟩
 have M := M.putPush 1 rfl hbw3 hfw3 (As.xn 112 (fr line (B8 s x)).1 A12 F12) hat12 hnw12
 have hI12 := hF.I.I line (B8 s x) DX A0
 refine ⟨_, rfl, ?_⟩
 have hm12 := hF.I.m line (B8 s x) DX A0
 refine CU M (wn_none rfl) rfl rfl [.agg (Xn.cells ((fr line (B8 s x)).1) A12).toArray] (Xn.cells ((fr line (B8 s x)).1) A12) rfl rfl rfl rfl underlying110 ML rfl rfl (EZ rfl) rfl fun g13 w4 hg13 M => ya rfl (AY (parts := [(0, _), (3, _)]) rfl rfl (JV _ _ _ _)) (C2 M 2 rfl rfl AI rfl fun w5 M => gnr (DQ rfl rfl (M.rdBlk 2 rfl rfl) underlying112 rfl AI ?_))
 obtain ⟨ha, hn⟩ := Mem.un (op := op) (M.pk [0, 1, 3])
 exact ⟨_, _, rfl, ha, hn, M.blk 3 rfl, M.fr⟩
theorem iO {s : List UInt8} {gx c5 c6 c7 c8 c9 c10 : Nat}  (x : Lx) (w : World) (hb : Blk w gx 168 (Lx.cells s x)) (hx : LxI s x) (hE : PE s w gx c5 c6 c7 c8 c9 c10) (hY : Lay0 w) :
 Calls prog 82 #[pg c5] w (TY s gx w (OJ s x)) := by
 have hGx : ∀ k, k = gx → nGlob ≤ k := fun _ e => e ▸ hE.g
 have hc : x.nd.cells none = [.int .u8 (x.nd.op.toNat : Int), .int .u8 (x.nd.vl.kind.toNat : Int), AA x.nd.vl.int, .bool x.nd.vl.bool, str x.nd.vl.text, str x.nd.nm, .slice none 0 0] := by unfold Xn.cells; rw [Xn.nk_leaf hx.leaf]
 refine sx_enter (vs := [_]) func82 rfl ntmps82 rfl ?_
 have M : Mem w (fun k => k = gx) [As.blk gx 168 (Lx.cells s x)] w := Mem.one hb
 refine srg (CO M rfl CR fun g1 w1 hg1 M => EF (yl rfl rfl (Blk.c ((hE.fr M.fr).b5) 0 rfl) (AV rfl rfl (yb rfl (ya rfl (AH (xs := [.int .u8 (x.nd.op.toNat : Int), .int .u8 (x.nd.vl.kind.toNat : Int), AA x.nd.vl.int, .bool x.nd.vl.bool, str x.nd.vl.text, str x.nd.nm, .slice none 0 0]) rfl rfl (DK (M.blk 1 rfl) 2 7 rfl rfl) underlying112 rfl AI) (CO M rfl CR fun g2 w2 hg2 M => C2 M 0 rfl rfl AI rfl ?_))))))
 intro w3 M
 refine nq (sx_seq (AC rfl (B2 M 0 rfl rfl rfl (C7 rfl rfl (nq (AF rfl (fun h10 => ?_) (fun h10 => ?_)))))))
 ·have h10p := (odt h10)
  refine DL 6 CL gkr ?_
  have M := M.drew
  refine sd rfl rfl (Blk.c ((hE.fr M.fr).b5) 0 rfl) (sd rfl rfl (Blk.c ((hE.fr M.fr).b5) 0 rfl) (sb rfl (sb rfl (sb rfl (GZ M 2 rfl rfl rfl (CB (cl 17 rfl (AE rfl rfl call83) (EI s x _ _ _ _ (M.blk 2 rfl)) ?_)))))))
  rintro _ w4 ⟨rfl, hbw4, hfw4⟩
  have M := M.putB 2 rfl hbw4 hfw4
  refine ⟨_, rfl, EF (yl rfl rfl (Blk.c ((hE.fr M.fr).b5) 0 rfl) (cl 19 rfl (AE rfl rfl call80) (GF s (x.fail 4 x.tat) _ _ (M.blk 2 rfl) (hx.fail _ _).at_ hE.len (hY.fr M.fr hGx) hE.g) ?_))⟩
  rintro _ w5 ⟨rfl, hbw5, hfw5⟩
  have M := M.putB 2 rfl hbw5 hfw5
  exact ⟨_, rfl, EF (DO M 0 rfl rfl underlying112 AI rfl (C2 M 1 rfl rfl AI rfl fun w6 M => gnr (DQ rfl rfl (M.rdBlk 1 rfl rfl) underlying112 rfl AI ⟨none, [], congrArg (fun z => Ending.returned (.agg z)) (congrArg List.toArray hc.symm), Xn.AtL.leaf hx.leaf, (fun k hk => absurd hk (by simp)), by rw [OJ, if_pos h10p]; exact M.blk 2 rfl, M.fr⟩)))⟩
 ·have h10p := (odf h10)
  refine sx_skip (qx_seq (srg (yl rfl rfl (Blk.c ((hE.fr M.fr).b5) 0 rfl) (cl 19 rfl (AE rfl rfl call80) (GF s x _ _ (M.blk 2 rfl) hx.at_ hE.len (hY.fr M.fr hGx) hE.g) ?_))))
  rintro _ w7 ⟨rfl, hbw7, hfw7⟩
  have M := M.putB 2 rfl hbw7 hfw7
  exact ⟨_, rfl, EF (DO M 0 rfl rfl underlying112 AI rfl (C2 M 1 rfl rfl AI rfl fun w8 M => gnr (DQ rfl rfl (M.rdBlk 1 rfl rfl) underlying112 rfl AI ⟨none, [], congrArg (fun z => Ending.returned (.agg z)) (congrArg List.toArray hc.symm), Xn.AtL.leaf hx.leaf, (fun k hk => absurd hk (by simp)), by rw [OJ, if_neg h10p]; exact M.blk 2 rfl, M.fr⟩)))⟩
theorem UN {s : List UInt8} {gx c5 c6 c7 c8 c9 c10 : Nat} {f : Nat} {fr : Nat → Lx → Xn × Lx} (hF : FromOK s gx c5 c6 c7 c8 c9 c10 f fr)  (x : Lx) (w : World) (hb : Blk w gx 168 (Lx.cells s x)) (hx : LxI s x) (he : x.e = 0) (hs : ¬ x.say = []) (hm : lxM s x ≤ f + 1) (hE : PE s w gx c5 c6 c7 c8 c9 c10) (hY : Lay0 w) :
 Calls prog 84 #[pg c5, pg c6] w (TY s gx w (FS s fr x)) := by
 have hGx : ∀ k, k = gx → nGlob ≤ k := fun _ e => e ▸ hE.g
 have hst := JR hx he hs
 refine sx_enter (vs := [_, _]) func84 rfl ntmps84 rfl ?_
 have M : Mem w (fun k => k = gx) [As.blk gx 168 (Lx.cells s x)] w := Mem.one hb
 refine srg (CO M rfl CR fun g2 w1 hg2 M => EF (yl rfl rfl (Blk.c ((hE.fr M.fr).b5) 0 rfl) (cl 5 rfl (AE rfl rfl call80) (GF s x _ _ (M.blk 1 rfl) hx.at_ hE.len (hY.fr M.fr hGx) hE.g) ?_)))
 rintro _ w2 ⟨rfl, hbw2, hfw2⟩
 have M := M.putB 1 rfl hbw2 hfw2
 refine ⟨_, rfl, EF (yl rfl rfl (Blk.c ((hE.fr M.fr).b6) 0 rfl) (cl 7 rfl (BC rfl rfl rfl call86) (hF.call 1 (B8 s x) _ A0 (M.blk 1 rfl) DX A0 (hE.fr M.fr) (hY.fr M.fr hGx)) ?_))⟩
 rintro _ w3 ⟨A7, F7, rfl, hat7, hnw7, hbw3, hfw3⟩
 have M := M.putPush 1 rfl hbw3 hfw3 (As.xn 112 (fr 1 (B8 s x)).1 A7 F7) hat7 hnw7
 have hI7 := hF.I.I 1 (B8 s x) DX A0
 refine ⟨_, rfl, ?_⟩
 have hm7 := hF.I.m 1 (B8 s x) DX A0
 refine CO M rfl CR fun g3 w4 hg3 M => C2 M 0 rfl rfl AI rfl fun w5 M => nq (sx_seq (srg (yl rfl rfl (Blk.c ((hE.fr M.fr).b5) 0 rfl) (AV rfl rfl (yb rfl (B2 M 3 rfl rfl rfl (ya rfl (FV rfl rfl rfl) (sxl_nil ?_))))))))
 refine qx_seq (AF rfl (fun h13 => ?_) (fun h13 => ?_))
 ·have h13p := (odf (BY h13))
  refine DL 6 CL gkr ?_
  have M := M.drew
  refine sd rfl rfl (Blk.c ((hE.fr M.fr).b5) 0 rfl) (sd rfl rfl (Blk.c ((hE.fr M.fr).b5) 0 rfl) (sb rfl (sb rfl (sb rfl (GZ M 3 rfl rfl rfl (CB (cl 20 rfl (AE rfl rfl call83) (EI s ((fr 1 (B8 s x)).2) _ _ _ _ (M.blk 3 rfl)) ?_)))))))
  rintro _ w6 ⟨rfl, hbw6, hfw6⟩
  have M := M.putB 3 rfl hbw6 hfw6
  refine ⟨_, rfl, EF (yl rfl rfl (Blk.c ((hE.fr M.fr).b5) 0 rfl) (cl 22 rfl (AE rfl rfl call80) (GF s (((fr 1 (B8 s x)).2).fail 4 ((fr 1 (B8 s x)).2.tat)) _ _ (M.blk 3 rfl) (hI7.fail _ _).at_ hE.len (hY.fr M.fr hGx) hE.g) ?_))⟩
  rintro _ w7 ⟨rfl, hbw7, hfw7⟩
  have M := M.putB 3 rfl hbw7 hfw7
  exact ⟨_, rfl, EF (DO M 0 rfl rfl underlying112 AI rfl (C2 M 2 rfl rfl AI rfl fun w8 M => gnr (DQ rfl rfl (M.rdBlk 2 rfl rfl) underlying112 rfl AI ⟨_, _, rfl, M.ok 1 _ rfl, M.newOf 1 3 rfl rfl AU, by rw [FS, if_pos h13p]; exact M.blk 3 rfl, M.fr⟩)))⟩
 ·have h13p := (odt (BJ h13))
  refine sx_skip (qx_seq (srg (yl rfl rfl (Blk.c ((hE.fr M.fr).b5) 0 rfl) (cl 22 rfl (AE rfl rfl call80) (GF s ((fr 1 (B8 s x)).2) _ _ (M.blk 3 rfl) hI7.at_ hE.len (hY.fr M.fr hGx) hE.g) ?_))))
  rintro _ w9 ⟨rfl, hbw9, hfw9⟩
  have M := M.putB 3 rfl hbw9 hfw9
  exact ⟨_, rfl, EF (DO M 0 rfl rfl underlying112 AI rfl (C2 M 2 rfl rfl AI rfl fun w10 M => gnr (DQ rfl rfl (M.rdBlk 2 rfl rfl) underlying112 rfl AI ⟨_, _, rfl, M.ok 1 _ rfl, M.newOf 1 3 rfl rfl AU, by rw [FS, if_neg (fun z => z h13p)]; exact M.blk 3 rfl, M.fr⟩)))⟩
theorem cI {s : List UInt8} {gx c5 c6 c7 c8 c9 c10 : Nat} {f : Nat} {fr : Nat → Lx → Xn × Lx} (hF : FromOK s gx c5 c6 c7 c8 c9 c10 f fr) (line : Nat) (hl : line ≤ 7) (x : Lx) (w : World) (hb : Blk w gx 168 (Lx.cells s x)) (hx : LxI s x) (he : x.e = 0) (hm : lxM s x ≤ f + 1) (hE : PE s w gx c5 c6 c7 c8 c9 c10) (hY : Lay0 w) :
 Calls prog 85 #[AA (line : Int), pg c5, pg c7, pg c9, pg c8] w (TY s gx w (DH s fr line x)) := by
 have hGx : ∀ k, k = gx → nGlob ≤ k := fun _ e => e ▸ hE.g
 refine sx_enter (vs := [_, _, _, _, _]) func85 rfl ntmps85 rfl ?_
 have M : Mem w (fun k => k = gx) [As.blk gx 168 (Lx.cells s x)] w := Mem.one hb
 refine srg (CO M rfl CR fun g6 w1 hg6 M => nq (sx_seq (sx_block (srg (yl rfl rfl (Blk.c ((hE.fr M.fr).b5) 0 rfl) (AV rfl rfl (yb rfl (B2 M 1 rfl rfl rfl (ya rfl (CS rfl rfl rfl) ?_)))))))))
 refine yb rfl (fvm M 3 [6, 4, 3, 2, 1] [(17, .bool ((decide (x.say = [110, 111, 116])) && (decide ((line : Int) ≤ 3))))] ?_ (fun k14 => ?_))
 ·intro w2 M
  refine AG rfl (AF rfl (fun h7 => ?_) (fun h7 => ?_))
  ·have h7p := (And.intro (odt (BX h7).1) (odt (BX h7).2))
   refine srg (yl rfl rfl (Blk.c ((hE.fr M.fr).b7) 0 rfl) (cl 19 rfl (BC rfl rfl rfl call81) (TE hF 3 3 AU x _ (M.blk 1 rfl) hx he (by rw [h7p.1]; decide) hm (hE.fr M.fr) (hY.fr M.fr hGx)) ?_))
   rintro _ w3 ⟨A19, F19, rfl, hat19, hnw19, hbw3, hfw3⟩
   have M := M.putPush 1 rfl hbw3 hfw3 (As.xn 112 (KH s fr 3 3 x).1 A19 F19) hat19 hnw19
   have hI19 := (QM hF.I hx he (by rw [h7p.1]; decide) hm 3 3).1
   refine ⟨_, rfl, C2 M 1 rfl rfl AI rfl fun w4 M => gnr (qx_block_ret (qx_then_ret (DQ rfl rfl (M.rdBlk 1 rfl rfl) underlying112 rfl AI ?_)))⟩
   have hfp : DH s fr line x = KH s fr 3 3 x := by unfold DH; exact if_pos ⟨h7p.1, by omega⟩
   rw [hfp]
   exact ⟨_, _, rfl, M.ok 0 _ rfl, M.newOf 0 2 rfl rfl AU, M.blk 2 rfl, M.fr⟩
  ·have h7p := ((DA h7).imp (fun z => (odf z)) (fun z => (odf z)))
   have h7n : ¬ (x.say = [110, 111, 116] ∧ line ≤ 3) := fun z => h7p.elim (fun q => q z.1) (fun q => q A0)
   refine srg (yl rfl rfl (Blk.c ((hE.fr M.fr).b5) 0 rfl) (AV rfl rfl (yb rfl (B2 M 1 rfl rfl rfl (ya rfl (CS rfl rfl rfl) (AG rfl (AF rfl (fun h20 => ?_) (fun h20 => ?_))))))))
   ·have h20p := (odt h20)
    refine srg (yl rfl rfl (Blk.c ((hE.fr M.fr).b7) 0 rfl) (cl 28 rfl (BC rfl rfl rfl call81) (TE hF 4 7 AU x _ (M.blk 1 rfl) hx he (by rw [h20p]; decide) hm (hE.fr M.fr) (hY.fr M.fr hGx)) ?_))
    rintro _ w5 ⟨A28, F28, rfl, hat28, hnw28, hbw5, hfw5⟩
    have M := M.putPush 1 rfl hbw5 hfw5 (As.xn 112 (KH s fr 4 7 x).1 A28 F28) hat28 hnw28
    have hI28 := (QM hF.I hx he (by rw [h20p]; decide) hm 4 7).1
    refine ⟨_, rfl, C2 M 1 rfl rfl AI rfl fun w6 M => gnr (qx_block_ret (qx_then_ret (DQ rfl rfl (M.rdBlk 1 rfl rfl) underlying112 rfl AI ?_)))⟩
    have hfp : DH s fr line x = KH s fr 4 7 x := by unfold DH; rw [if_neg (fun z => h7n z), if_pos h20p]
    rw [hfp]
    exact ⟨_, _, rfl, M.ok 0 _ rfl, M.newOf 0 2 rfl rfl AU, M.blk 2 rfl, M.fr⟩
   ·have h20p := (odf h20)
    refine srg (yl rfl rfl (Blk.c ((hE.fr M.fr).b5) 0 rfl) (AV rfl rfl (yb rfl (B2 M 1 rfl rfl rfl (ya rfl (CS rfl rfl rfl) (AG rfl (AF rfl (fun h29 => ?_) (fun h29 => ?_))))))))
    ·have h29p := (odt h29)
     refine srg (yl rfl rfl (Blk.c ((hE.fr M.fr).b9) 0 rfl) (cl 37 rfl (BC rfl rfl rfl call84) (UN hF x _ (M.blk 1 rfl) hx he (by rw [h29p]; decide) hm (hE.fr M.fr) (hY.fr M.fr hGx)) ?_))
     rintro _ w7 ⟨A37, F37, rfl, hat37, hnw37, hbw7, hfw7⟩
     have M := M.putPush 1 rfl hbw7 hfw7 (As.xn 112 (FS s fr x).1 A37 F37) hat37 hnw37
     have hI37 := (SH hF.I hx he (by rw [h29p]; decide) hm).1
     refine ⟨_, rfl, C2 M 1 rfl rfl AI rfl fun w8 M => gnr (qx_block_ret (qx_then_ret (DQ rfl rfl (M.rdBlk 1 rfl rfl) underlying112 rfl AI ?_)))⟩
     have hfp : DH s fr line x = FS s fr x := by unfold DH; rw [if_neg (fun z => h7n z), if_neg h20p, if_pos h29p]
     rw [hfp]
     exact ⟨_, _, rfl, M.ok 0 _ rfl, M.newOf 0 2 rfl rfl AU, M.blk 2 rfl, M.fr⟩
    ·have h29p := (odf h29)
     refine sx_skip (qx_block_normal (qx_seq (srg (yl rfl rfl (Blk.c ((hE.fr M.fr).b8) 0 rfl) (cl 39 rfl (BC rfl rfl rfl call82) (iO x _ (M.blk 1 rfl) hx (hE.fr M.fr) (hY.fr M.fr hGx)) ?_)))))
     rintro _ w9 ⟨A39, F39, rfl, hat39, hnw39, hbw9, hfw9⟩
     have M := M.putPush 1 rfl hbw9 hfw9 (As.xn 112 (OJ s x).1 A39 F39) hat39 hnw39
     have hI39 := (lW hx).1
     refine ⟨_, rfl, C2 M 1 rfl rfl AI rfl fun w10 M => gnr (DQ rfl rfl (M.rdBlk 1 rfl rfl) underlying112 rfl AI ?_)⟩
     have hfp : DH s fr line x = OJ s x := by unfold DH; rw [if_neg (fun z => h7n z), if_neg h20p, if_neg h29p]
     rw [hfp]
     exact ⟨_, _, rfl, M.ok 0 _ rfl, M.newOf 0 2 rfl rfl AU, M.blk 2 rfl, M.fr⟩
 refine AD (d := 14) rfl (fun h14 => ?_) (fun h14 => ?_)
 ·exact gyq rfl (yd rfl (G8 rfl rfl rfl) (yb rfl (k14 M ⟨rfl, rfl, rfl, rfl, rfl, (by rw [h14]; rfl), trivial⟩)))
 ·exact yo rfl (yo rfl (yb rfl (k14 M ⟨rfl, rfl, rfl, rfl, rfl, (by rw [h14]; rfl), trivial⟩)))
section
section
variable {P : Program} {ops : Array Oper} {Q : Exit → Act → World → Prop} {S : World → Prop} {t n f : Nat} {listed : Array Bool} {e : Env} {w : World}
theorem tI {o : Oper} {d : Nat} {v : Value} (i : Nat) (hr : Region.ready .any ops listed = [i]) (ho : ops[i]? = some o) (hw : Wn ops e o) (hd : o.dst = some d) (hn : Nat.blt d n = true) (hy : Y P e o w v) (hS : i < t → S w)
 (k : SxO P ops Q t S n f (listed.setIfInBounds i true) ((d, v) :: e) w) : SxO P ops Q t S n (f + 1) listed e w :=
 AR i (some d) hr ho hw hd hn (R := fun u w' => u = v ∧ w' = w) (fun ρ hρ => ⟨v, w, .inl (hy ρ hρ), rfl, rfl⟩) fun u w' ⟨h1, h2⟩ => by subst h1; subst h2; exact ⟨hS, k⟩
end
theorem Mem.bin {w0 w : World} {S : Nat → Prop} {L : List As} {t g : Nat} {op : UInt8} {a b : Xn} {B C : Option Addr} {F F' : List Nat} (M : Mem w0 S (As.blk g t (a.cells B ++ b.cells C) :: As.xn t a B F :: As.xn t b C F' :: L) w) : Mem w0 S (As.xn t (.bin op a b) (some ⟨g, 0, none⟩) (g :: (F ++ F')) :: L) w := by
 have get : ∀ (i : Nat) (c : As), L[i]? = some c → (As.blk g t (a.cells B ++ b.cells C) :: As.xn t a B F :: As.xn t b C F' :: L)[i + 3]? = some c := fun i c h => h
 have fp : ∀ k, k ∈ (As.xn t (.bin op a b) (some ⟨g, 0, none⟩) (g :: (F ++ F'))).fp → ∃ (i : Nat) (c : As), i < 3 ∧ (As.blk g t (a.cells B ++ b.cells C) :: As.xn t a B F :: As.xn t b C F' :: L)[i]? = some c ∧ k ∈ c.fp := fun k hk => by
  rcases List.mem_cons.1 (show k ∈ g :: (F ++ F') from hk) with rfl | hk
  ·exact ⟨0, _, by decide, rfl, by simp [As.blk]⟩
  ·rcases List.mem_append.1 hk with hk | hk
   ·exact ⟨1, _, by decide, rfl, hk⟩
   ·exact ⟨2, _, by decide, rfl, hk⟩
 refine ⟨M.fr, ?_, ?_, ?_⟩
 ·intro i c hi
  cases i with
  | zero =>
   simp only [List.getElem?_cons_zero, Option.some.injEq] at hi; subst hi
   exact ⟨g, B, C, F, F', rfl, rfl, M.blk 0 rfl, M.ok 1 _ rfl, M.ok 2 _ rfl⟩
  | succ i => exact M.ok (i + 3) c (get i c (by simpa using hi))
 ·intro i c hi k hk
  cases i with
  | zero =>
   simp only [List.getElem?_cons_zero, Option.some.injEq] at hi; subst hi
   obtain ⟨j, d, _, h1, h2⟩ := fp k hk
   exact M.lt j d h1 k h2
  | succ i => exact M.lt (i + 3) c (get i c (by simpa using hi)) k hk
 ·intro i j c d hi hj hne k hk hk'
  cases i with
  | zero =>
   cases j with
   | zero => exact hne rfl
   | succ j =>
    simp only [List.getElem?_cons_zero, Option.some.injEq] at hi; subst hi
    obtain ⟨q, d', hq, h1, h2⟩ := fp k hk
    exact M.apart q (j + 3) d' d h1 (get j d (by simpa using hj)) A0 k h2 hk'
  | succ i =>
   cases j with
   | zero =>
    simp only [List.getElem?_cons_zero, Option.some.injEq] at hj; subst hj
    obtain ⟨q, d', hq, h1, h2⟩ := fp k hk'
    exact M.apart (i + 3) q c d' (get i c (by simpa using hi)) h1 A0 k hk h2
   | succ j => exact M.apart (i + 3) (j + 3) c d (get i c (by simpa using hi)) (get j d (by simpa using hj)) A0 k hk hk'
theorem ZZ {s : List UInt8} {x : Lx} (h : LxI s x) (he : x.e = 0) : 0 < lxM s x := by
 have := h.at_; have := h.tat
 unfold lxM; rw [if_pos he]; omega
theorem iL (k : List UInt8) : ((AO k).getD (0, 0)).2 ≤ 6 := nH k
theorem oT {s : List UInt8} {f line : Nat} {x : Lx} (h : ¬ x.e = 0) : CJ s (f + 1) line x = (.zero, x) := by rw [CJ, if_pos h]
theorem kE {s : List UInt8} {f line : Nat} {x : Lx} {fr : Nat → Lx → Xn × Lx} (h : x.e = 0) (hfr : fr = CJ s (f + 1)) : CJ s (f + 1 + 1) line x = G4 s fr (f + 1) line (DH s fr line x).1 (DH s fr line x).2 := by
 subst hfr
 rw [CJ, if_neg (fun z => z h)]
section
variable {s : List UInt8} {fr : Nat → Lx → Xn × Lx} {line k : Nat} {n : Xn} {y : Lx}
theorem dA (h : ¬ y.e = 0) : G4 s fr k line n y = (n, y) := by
 cases k with
 | zero => rfl
 | succ k => rw [G4, if_pos h]
theorem bV (h : ((!(AO y.say).isSome) || (decide (((((AO y.say).getD (0, 0)).2 : Nat) : Int) < (line : Int)))) = false) : ¬ y.say = [] := VZ fun z => by
 have := BJ (BT h).1
 cases hs : AO y.say with
 | none => rw [hs] at this; cases this
 | some v => rw [hs] at z; cases z
theorem YL (he : y.e = 0) (h : ((!(AO y.say).isSome) || (decide (((((AO y.say).getD (0, 0)).2 : Nat) : Int) < (line : Int)))) = true) : G4 s fr (k + 1) line n y = (n, y) := by
 rw [G4, if_neg (fun z => z he), if_pos]
 rcases E6 h with h | h
 ·left
  have := BY h
  cases hs : AO y.say with
  | none => rfl
  | some v => rw [hs] at this; cases this
 ·right
  have := odt h
  unfold Q1; omega
theorem RJ (he : y.e = 0) (h : ((!(AO y.say).isSome) || (decide (((((AO y.say).getD (0, 0)).2 : Nat) : Int) < (line : Int)))) = false) : G4 s fr (k + 1) line n y = G4 s fr k line (.bin ((AO y.say).getD (0, 0)).1 n (KX s fr y).1) (KX s fr y).2 := by
 rw [G4, if_neg (fun z => z he), if_neg]
 intro z
 rcases z with z | z
 ·have := BJ (BT h).1
  cases hs : AO y.say with
  | none => rw [hs] at this; cases this
  | some v => rw [hs] at z; cases z
 ·have := odf (BT h).2
  unfold Q1 at z; omega
theorem dB (he : y.e = 0) (h : ((!(AO y.say).isSome) || (decide (((((AO y.say).getD (0, 0)).2 : Nat) : Int) < (line : Int)))) = false)
 (h2 : ((decide (((((AO y.say).getD (0, 0)).2 : Nat) : Int) = 4)) && (decide (((((AO (fr (((AO y.say).getD (0, 0)).2 + 1) (B8 s y)).2.say).getD (0, 0)).2 : Nat) : Int) = 4))) = true) : G4 s fr (k + 1) line n y = G4 s fr k line (.bin ((AO y.say).getD (0, 0)).1 n (fr (((AO y.say).getD (0, 0)).2 + 1) (B8 s y)).1) ((fr (((AO y.say).getD (0, 0)).2 + 1) (B8 s y)).2.fail 4 (fr (((AO y.say).getD (0, 0)).2 + 1) (B8 s y)).2.tat) := by
 rw [RJ he h]
 have h3 := odt (BX h2).1
 have h4 := odt (BX h2).2
 unfold KX Q1
 simp only
 rw [if_pos ⟨by omega, by omega⟩]
theorem jG (he : y.e = 0) (h : ((!(AO y.say).isSome) || (decide (((((AO y.say).getD (0, 0)).2 : Nat) : Int) < (line : Int)))) = false)
 (h2 : ((decide (((((AO y.say).getD (0, 0)).2 : Nat) : Int) = 4)) && (decide (((((AO (fr (((AO y.say).getD (0, 0)).2 + 1) (B8 s y)).2.say).getD (0, 0)).2 : Nat) : Int) = 4))) = false) : G4 s fr (k + 1) line n y = G4 s fr k line (.bin ((AO y.say).getD (0, 0)).1 n (fr (((AO y.say).getD (0, 0)).2 + 1) (B8 s y)).1) (fr (((AO y.say).getD (0, 0)).2 + 1) (B8 s y)).2 := by
 rw [RJ he h]
 have h3 := (DA h2).imp odf odf
 unfold KX Q1
 simp only
 rw [if_neg A0]
end
theorem I7  : prog.built 112 [] = some #[.int .u8 0, .int .u8 0, AA 0, .bool false, str [], str [], .slice none 0 0] := by kernel_rfl
theorem WE {s : List UInt8} {gx c5 c6 c7 c8 c9 c10 : Nat} {f : Nat} (h : ∀ f', f = f' + 1 → FromOK s gx c5 c6 c7 c8 c9 c10 f' (CJ s (f' + 1))) (line : Nat) (hl : line ≤ 7) (x : Lx) (w : World) (hb : Blk w gx 168 (Lx.cells s x)) (hx : LxI s x) (hm : lxM s x ≤ f) (hE : PE s w gx c5 c6 c7 c8 c9 c10) (hY : Lay0 w) :
 Calls prog 86 #[AA (line : Int), pg c5, pg c10, pg c6] w (TY s gx w (CJ s (f + 1) line x)) := by
 have hGx : ∀ k, k = gx → nGlob ≤ k := fun _ e => e ▸ hE.g
 refine sx_enter (vs := [_, _, _, _]) func86 rfl ntmps86 rfl ?_
 have M : Mem w (fun k => k = gx) [As.blk gx 168 (Lx.cells s x)] w := Mem.one hb
 refine srg (CO M rfl CR fun g5 w1 hg5 M => nq (sx_seq (srg (yl rfl rfl (Blk.c ((hE.fr M.fr).b5) 0 rfl) (AV rfl rfl (B2 M 1 rfl rfl rfl (FT rfl rfl (nq ?_))))))))
 refine AF rfl (fun h14 => ?_) (fun h14 => ?_)
 ·have h14p := (odf (BY h14))
  refine srg (ya rfl (AY (parts := []) rfl rfl (I7)) (C2 M 0 rfl rfl AI rfl fun w2 M => gnr (qx_then_ret (DQ rfl rfl (M.rdBlk 0 rfl rfl) underlying112 rfl AI ?_))))
  rw [oT h14p]
  exact ⟨none, [], rfl, ⟨rfl, rfl⟩, (fun k hk => absurd hk (by simp)), M.blk 1 rfl, M.fr⟩
 ·have h14p := (odt (BJ h14))
  obtain ⟨f', rfl⟩ : ∃ f', f = f' + 1 := ⟨f - 1, by have := ZZ hx h14p; omega⟩
  have hF := h f' rfl
  obtain ⟨fr, hfr⟩ : ∃ fr, fr = CJ s (f' + 1) := ⟨_, rfl⟩
  rw [← hfr] at hF
  refine sx_skip (qx_seq (srg (yl rfl rfl (Blk.c ((hE.fr M.fr).b10) 0 rfl) (yb rfl (cl 18 rfl (BC rfl rfl rfl call85) (cI hF line A0 x _ (M.blk 1 rfl) hx h14p A0 (hE.fr M.fr) (hY.fr M.fr hGx)) ?_)))))
  rintro _ w3 ⟨A18, F18, rfl, hat18, hnw18, hbw3, hfw3⟩
  have M := M.putPush 1 rfl hbw3 hfw3 (As.xn 112 (DH s fr line x).1 A18 F18) hat18 hnw18
  have hI18 := (V3 hF.I hx h14p A0 line).1
  refine ⟨_, rfl, ?_⟩
  have hm18 := (V3 hF.I hx h14p A0 line).2
  have hfp := kE (line := line) h14p hfr
  refine CO M rfl CR fun g6 w4 hg6 M => C2 M 0 rfl rfl AI rfl fun w5 M => nq (sx_seq (sx_block (flp [6, 5, 3, 1, 0] (fun ze e wr mz => ∃ (n : Xn) (A : Option Addr) (F : List Nat) (y : Lx) (k : Nat), e = ze ∧ Mem w (fun k => k = gx) [As.blk g6 112 (Xn.cells n A), As.xn 112 n A F, As.blk g5 112 [.int .u8 0, .int .u8 0, AA 0, .bool false, str [], str [], .slice none 0 0], As.blk gx 168 (Lx.cells s y)] wr ∧ (LxI s y) ∧ (lxM s y ≤ k ∧ k ≤ f' + 1) ∧ (CJ s (f' + 1 + 1) line x = G4 s fr k line n y) ∧ mz = 2 * k) ⟨(DH s fr line x).1, A18, F18, (DH s fr line x).2, (f' + 1), rfl, M, hI18, ⟨by omega, Nat.le_refl _⟩, hfp, rfl⟩ ?_)))
  rintro _ w6 _ ⟨n, A, F, y, k, rfl, M, hyI, hk, heq, rfl⟩
  refine sx_seq (srg (yl rfl rfl (Blk.c ((hE.fr M.fr).b5) 0 rfl) (AV rfl rfl (B2 M 3 rfl rfl rfl (C7 rfl rfl (nq (AF rfl (fun h23 => ?_) (fun h23 => ?_))))))))
  ·have h23p := (odt h23)
   obtain ⟨j, rfl⟩ : ∃ j, k = j + 1 := ⟨k - 1, by have := ZZ hyI h23p; omega⟩
   refine sx_skip (qx_seq (sx_block (sx_seq (NN (fun (g7 : Nat) (g25 : Nat) => [(0, AA (line : Int)), (1, pg c5), (3, pg c6), (5, pg g5), (6, pg g6), (7, pg g7), (8, .bool ((AO y.say).isSome))]) (fun (g7 : Nat) (g25 : Nat) => fun w' => Mem w (fun k => k = gx) [As.blk g7 174 [.int .u8 (((AO y.say).getD (0, 0)).1.toNat : Int), AA ((((AO y.say).getD (0, 0)).2 : Nat) : Int)], As.mp g25 DN, As.blk g6 112 (Xn.cells n A), As.xn 112 n A F, As.blk g5 112 [.int .u8 0, .int .u8 0, AA 0, .bool false, str [], str [], .slice none 0 0], As.blk gx 168 (Lx.cells s y)] w') ?_ (fun kr5 => ?_)))))
   ·intro g7 g25 w7 M
    refine qx_seq (sx_seq (AC rfl (AV rfl rfl (fvm M 5 [7, 6, 5, 3, 1, 0] [(41, .bool ((!(AO y.say).isSome) || (decide (((((AO y.say).getD (0, 0)).2 : Nat) : Int) < (line : Int)))))] ?_ (fun k36 => ?_)))))
    ·intro w8 M
     refine nq (AF rfl (fun h41 => ?_) (fun h41 => ?_))
     ·have h41p := ((E6 h41).imp (fun z => (BY z)) (fun z => (odt z)))
      refine srg (DO M 2 rfl rfl underlying112 AI rfl (C2 M 4 rfl rfl AI rfl fun w9 M => gnr (qx_then_ret (qx_block_ret (qx_then_ret (qx_block_ret (qx_then_ret (DQ rfl rfl (M.rdBlk 4 rfl rfl) underlying112 rfl AI ?_))))))))
      rw [heq.trans (YL h23p h41)]
      exact ⟨_, _, rfl, M.ok 3 _ rfl, M.newOf 3 5 rfl rfl AU, M.blk 5 rfl, M.fr⟩
     ·have h41p := (And.intro (BJ (BT h41).1) (odf (BT h41).2))
      have hpr := iL y.say
      have hst := JR hyI h23p (bV h41)
      refine sx_skip (qx_seq (srg (yl rfl rfl (Blk.c ((hE.fr M.fr).b5) 0 rfl) (cl 44 rfl (AE rfl rfl call80) (GF s y _ _ (M.blk 5 rfl) hyI.at_ hE.len (hY.fr M.fr hGx) hE.g) ?_))))
      rintro _ w10 ⟨rfl, hbw10, hfw10⟩
      have M := M.putB 5 rfl hbw10 hfw10
      refine ⟨_, rfl, nq (sx_seq (EG 10 (fun w' => Mem w (fun k => k = gx) [As.blk g7 174 [.int .u8 (((AO y.say).getD (0, 0)).1.toNat : Int), AA ((((AO y.say).getD (0, 0)).2 : Nat) : Int)], As.mp g25 DN, As.blk g6 112 (Xn.cells n A), As.xn 112 n A F, As.blk g5 112 [.int .u8 0, .int .u8 0, AA 0, .bool false, str [], str [], .slice none 0 0]] w') CL ?_))⟩
      have M := M.drew
      refine oc 0 10 rfl rfl (M.pk [0, 1, 2, 3, 4]) (ol 1 10 rfl rfl rfl (M.pk [0, 1, 2, 3, 4]) (fun _ M => (M.cell 0 rfl rfl)) (oa 2 10 rfl rfl (M.pk [0, 1, 2, 3, 4]) (fun _ M => AH (xs := Xn.cells n A) rfl rfl (M.rdBlk 2 rfl rfl) underlying112 rfl AI) (ol 3 10 rfl rfl rfl (M.pk [0, 1, 2, 3, 4]) (fun _ M => (Blk.c ((hE.fr M.fr).b6) 0 rfl)) (oc 4 10 rfl rfl (M.pk [0, 1, 2, 3, 4]) (ol 5 10 rfl rfl rfl (M.pk [0, 1, 2, 3, 4]) (fun _ M => (M.cell 0 rfl rfl)) (oa 6 10 rfl rfl (M.pk [0, 1, 2, 3, 4]) (fun _ M => GD rfl rfl rfl A0) (C5 7 (some 52) gkr rfl (wn_none rfl) rfl rfl (BC rfl rfl rfl call86) (hF.call ((((AO y.say).getD (0, 0)).2) + 1) (B8 s y) _ A0 (M.blk 5 rfl) DX A0 (hE.fr M.fr) (hY.fr M.fr hGx)) ?_)))))))
      rintro _ w11 ⟨A52, F52, rfl, hat52, hnw52, hbw11, hfw11⟩
      have M := M.putPush 5 rfl hbw11 hfw11 (As.xn 112 (fr ((((AO y.say).getD (0, 0)).2) + 1) (B8 s y)).1 A52 F52) hat52 hnw52
      have hI52 := hF.I.I ((((AO y.say).getD (0, 0)).2) + 1) (B8 s y) DX A0
      refine ⟨_, rfl, fun _ => (M.pk [1, 2, 3, 4, 5]), ?_⟩
      have hm52 := hF.I.m ((((AO y.say).getD (0, 0)).2) + 1) (B8 s y) DX A0
      refine AR 8 (some 53) gkr rfl (wn_none rfl) rfl rfl (fun ρ hρ => CM [.agg (Xn.cells n A).toArray, .agg (Xn.cells ((fr ((((AO y.say).getD (0, 0)).2) + 1) (B8 s y)).1) A52).toArray] _ hρ rfl rfl rfl rfl underlying110 ML AU AU (by intro v hv; simp only [List.mem_cons, List.not_mem_nil, or_false] at hv; rcases hv with rfl | rfl <;> rfl)) ?_
      rintro _ w12 ⟨g53, rfl, hg53, hq53, hb53, hfw12⟩
      replace hb53 : Blk w12 g53 112 ((Xn.cells n A) ++ (Xn.cells ((fr ((((AO y.say).getD (0, 0)).2) + 1) (B8 s y)).1) A52)) := hb53
      refine ⟨fun _ => (M.pk [1, 2, 3, 4, 5]).step hfw12, ?_⟩
      have M := M.push hfw12 _ hb53 (DF hg53 hq53)
      replace M : Mem w (fun k => k = gx) (As.blk g53 112 ((Xn.cells n A) ++ (Xn.cells ((fr ((((AO y.say).getD (0, 0)).2) + 1) (B8 s y)).1) A52)) :: _) w12 := M
      refine oa 9 10 rfl rfl (M.pk [2, 3, 4, 5, 6]) (fun _ M => AY (parts := [(0, _), (3, _)]) rfl rfl (JV _ _ _ _)) (AR 10 none gkr rfl (wn_none rfl) rfl rfl (fun ρ hρ => BH 112 _ _ rfl g6 0 112 _ ([.int .u8 (((AO y.say).getD (0, 0)).1.toNat : Int), .int .u8 0, AA 0, .bool false, str [], str [], .slice (some ⟨g53, 0, none⟩) 2 2]) (hρ _ _ rfl) (hρ _ _ rfl) (M.blk 4 rfl) AI (D0 rfl) (BG rfl)) ?_)
      rintro _ w13 ⟨rfl, hbw13, hfw13⟩
      replace M : Mem w (fun k => k = gx) (List.set _ 4 (As.blk g6 112 [.int .u8 (((AO y.say).getD (0, 0)).1.toNat : Int), .int .u8 0, AA 0, .bool false, str [], str [], .slice (some ⟨g53, 0, none⟩) 2 2])) w13 := M.putB 4 rfl hbw13 hfw13
      refine ⟨fun h => absurd h AU, fdn (qx_seq (sx_seq (NN (fun (g9 : Nat) (g55 : Nat) => [(0, AA (line : Int)), (1, pg c5), (3, pg c6), (5, pg g5), (6, pg g6), (7, pg g7), (9, pg g9)]) (fun (g9 : Nat) (g55 : Nat) => fun w' => Mem w (fun k => k = gx) [As.blk g9 174 [.int .u8 (((AO ((fr ((((AO y.say).getD (0, 0)).2) + 1) (B8 s y)).2.say)).getD (0, 0)).1.toNat : Int), AA ((((AO ((fr ((((AO y.say).getD (0, 0)).2) + 1) (B8 s y)).2.say)).getD (0, 0)).2 : Nat) : Int)], As.mp g55 DN, As.blk g53 112 ((Xn.cells n A) ++ (Xn.cells ((fr ((((AO y.say).getD (0, 0)).2) + 1) (B8 s y)).1) A52)), As.xn 112 ((fr ((((AO y.say).getD (0, 0)).2) + 1) (B8 s y)).1) A52 F52, As.blk g7 174 [.int .u8 (((AO y.say).getD (0, 0)).1.toNat : Int), AA ((((AO y.say).getD (0, 0)).2 : Nat) : Int)], As.mp g25 DN, As.blk g6 112 [.int .u8 (((AO y.say).getD (0, 0)).1.toNat : Int), .int .u8 0, AA 0, .bool false, str [], str [], .slice (some ⟨g53, 0, none⟩) 2 2], As.xn 112 n A F, As.blk g5 112 [.int .u8 0, .int .u8 0, AA 0, .bool false, str [], str [], .slice none 0 0], As.blk gx 168 (Lx.cells s ((fr ((((AO y.say).getD (0, 0)).2) + 1) (B8 s y)).2))] w') ?_ (fun kr10 => ?_))))⟩
      ·intro g9 g55 w14 M
       refine qx_seq (AC rfl (B2 M 4 rfl rfl rfl (C7 rfl rfl (yb rfl (fvm M 4 [6, 5, 3, 1, 0] [(69, .bool ((decide (((((AO y.say).getD (0, 0)).2 : Nat) : Int) = 4)) && (decide (((((AO ((fr ((((AO y.say).getD (0, 0)).2) + 1) (B8 s y)).2.say)).getD (0, 0)).2 : Nat) : Int) = 4))))] ?_ (fun k65 => ?_))))))
       ·intro w15 M
        refine nq (AF rfl (fun h69 => ?_) (fun h69 => ?_))
        ·have h69p := (And.intro (odt (BX h69).1) (odt (BX h69).2))
         refine DL 6 CL gkr ?_
         have M := M.drew
         refine sd rfl rfl (Blk.c ((hE.fr M.fr).b5) 0 rfl) (sd rfl rfl (Blk.c ((hE.fr M.fr).b5) 0 rfl) (sb rfl (sb rfl (sb rfl (GZ M 9 rfl rfl rfl (CB (cl 76 rfl (AE rfl rfl call83) (EI s ((fr ((((AO y.say).getD (0, 0)).2) + 1) (B8 s y)).2) _ _ _ _ (M.blk 9 rfl)) ?_)))))))
         rintro _ w16 ⟨rfl, hbw16, hfw16⟩
         have M := M.putB 9 rfl hbw16 hfw16
         refine ⟨_, rfl, sxl_nil (qx_block_normal ?_)⟩
         have M := Mem.bin (op := ((AO y.say).getD (0, 0)).1) (M.pk [2, 7, 3, 6, 8, 9])
         refine fag ⟨(Xn.bin ((AO y.say).getD (0, 0)).1 n (fr (((AO y.say).getD (0, 0)).2 + 1) (B8 s y)).1), (some ⟨g53, 0, none⟩), (g53 :: (F ++ F52)), (((fr ((((AO y.say).getD (0, 0)).2) + 1) (B8 s y)).2).fail 4 ((fr ((((AO y.say).getD (0, 0)).2) + 1) (B8 s y)).2.tat)), j, rfl, (M.pk [1, 0, 2, 3]), ?_, ?_, ?_, rfl⟩
         ·exact hI52.fail _ _
         ·rw [O3 AU]; exact ⟨Nat.zero_le _, by omega⟩
         ·exact heq.trans (dB h23p h41 h69)
        ·have h69p := ((DA h69).imp (fun z => (odf z)) (fun z => (odf z)))
         refine sx_skip (qx_block_normal ?_)
         have M := Mem.bin (op := ((AO y.say).getD (0, 0)).1) (M.pk [2, 7, 3, 6, 8, 9])
         refine fag ⟨(Xn.bin ((AO y.say).getD (0, 0)).1 n (fr (((AO y.say).getD (0, 0)).2 + 1) (B8 s y)).1), (some ⟨g53, 0, none⟩), (g53 :: (F ++ F52)), ((fr ((((AO y.say).getD (0, 0)).2) + 1) (B8 s y)).2), j, rfl, (M.pk [1, 0, 2, 3]), ?_, ?_, ?_, rfl⟩
         ·exact hI52
         ·exact ⟨by omega, by omega⟩
         ·exact heq.trans (jG h23p h41 h69)
       refine AD (d := 65) rfl (fun h65 => ?_) (fun h65 => ?_)
       ·exact gyq rfl (C3 M 0 rfl rfl rfl (yd rfl (BO rfl rfl rfl) (yb rfl (k65 M ⟨rfl, rfl, rfl, rfl, rfl, (by rw [h65]; rfl), trivial⟩))))
       ·exact yo rfl (yo rfl (yo rfl (yb rfl (k65 M ⟨rfl, rfl, rfl, rfl, rfl, (by rw [h65]; rfl), trivial⟩))))
      refine I6 M 9 CL fun M => ol 1 9 rfl rfl rfl M (fun _ M => (Blk.c ((hE.fr M.fr).b5) 0 rfl)) (oc 2 9 rfl rfl M (oc 3 9 rfl rfl M (oc 4 9 rfl rfl M (ol 5 9 rfl rfl rfl M (fun _ M => (M.cell 7 rfl rfl)) (FP (rs := [0, 7]) gkr (by simp) fun iz hiz => ?_)))))
      simp only [List.mem_cons, List.not_mem_nil, or_false] at hiz
      rcases hiz with rfl | rfl
      ·refine K9 (some 55) rfl (wn_none rfl) rfl rfl (AE rfl rfl call87) (HU _) ?_
       rintro _ w17 ⟨g55, rfl, hMw17, hgw17, hfw17⟩
       refine ⟨_, rfl, fun _ => M.step hfw17, ?_⟩
       have M := M.push hfw17 (As.mp g55 DN) hMw17 (L5 hgw17 hMw17.lt)
       refine FP (rs := [6, 7]) gkr (by simp) fun iz hiz => ?_
       simp only [List.mem_cons, List.not_mem_nil, or_false] at hiz
       rcases hiz with rfl | rfl
       ·refine DE (some 61) rfl (wn_none rfl) rfl rfl (aN (BD rfl rfl rfl underlying176 underlying9 BF (M.mp 0 rfl) (E7 _))) ?_
        rintro _ _ ⟨rfl, rfl⟩
        refine ⟨fun _ => (M.drop 1), AR 7 (some 9) gkr rfl (wn_none rfl) rfl rfl (fun ρ hρ => BW 174 rfl _ [.int .u8 0, AA 0] BF rfl) ?_⟩
        rintro _ w18 ⟨g9, rfl, hg9, hq9, hb9, hfw18⟩
        refine ⟨fun _ => (M.drop 1).step hfw18, ?_⟩
        have M := M.push hfw18 _ hb9 (DF hg9 hq9)
        replace M : Mem w (fun k => k = gx) (As.blk g9 174 [.int .u8 0, AA 0] :: _) w18 := M
        exact fop M 8 0 rfl rfl rfl D2 rfl (·.drop 2) fun w19 M => fdn (kr10 g9 g55 _ _ M ⟨rfl, rfl, rfl, rfl, rfl, rfl, rfl, trivial⟩)
       ·refine DE (some 9) rfl (wn_none rfl) rfl rfl (fun ρ hρ => BW 174 rfl _ [.int .u8 0, AA 0] BF rfl) ?_
        rintro _ w20 ⟨g9, rfl, hg9, hq9, hb9, hfw20⟩
        refine ⟨fun _ => (M.drop 1).step hfw20, ?_⟩
        have M := M.push hfw20 _ hb9 (DF hg9 hq9)
        replace M : Mem w (fun k => k = gx) (As.blk g9 174 [.int .u8 0, AA 0] :: _) w20 := M
        exact CW 6 gkr rfl (wn_none rfl) rfl rfl (BD rfl rfl rfl underlying176 underlying9 BF (M.mp 1 rfl) (E7 _)) (M.drop 2) (fop M 8 0 rfl rfl rfl D2 rfl (·.drop 2) fun w21 M => fdn (kr10 g9 g55 _ _ M ⟨rfl, rfl, rfl, rfl, rfl, rfl, rfl, trivial⟩))
      ·refine DE (some 9) rfl (wn_none rfl) rfl rfl (fun ρ hρ => BW 174 rfl _ [.int .u8 0, AA 0] BF rfl) ?_
       rintro _ w22 ⟨g9, rfl, hg9, hq9, hb9, hfw22⟩
       refine ⟨fun _ => M.step hfw22, ?_⟩
       have M := M.push hfw22 _ hb9 (DF hg9 hq9)
       replace M : Mem w (fun k => k = gx) (As.blk g9 174 [.int .u8 0, AA 0] :: _) w22 := M
       refine C5 0 (some 55) gkr rfl (wn_none rfl) rfl rfl (AE rfl rfl call87) (HU _) ?_
       rintro _ w23 ⟨g55, rfl, hMw23, hgw23, hfw23⟩
       refine ⟨_, rfl, fun _ => (M.drop 1).step hfw23, ?_⟩
       have M := M.push hfw23 (As.mp g55 DN) hMw23 (L5 hgw23 hMw23.lt)
       exact CW 6 gkr rfl (wn_none rfl) rfl rfl (BD rfl rfl rfl underlying176 underlying9 BF (M.mp 0 rfl) (E7 _)) (M.drop 2) (fop M 8 1 rfl rfl rfl D2 rfl (·.drop 2) fun w24 M => fdn (kr10 g9 g55 _ _ (M.pk [1, 0, 2, 3, 4, 5, 6, 7, 8, 9]) ⟨rfl, rfl, rfl, rfl, rfl, rfl, rfl, trivial⟩))
    refine AD (d := 36) rfl (fun h36 => ?_) (fun h36 => ?_)
    ·iterate 4 refine yo rfl ?_
     exact yb rfl (k36 M ⟨rfl, rfl, rfl, rfl, rfl, rfl, (by rw [h36]; rfl), trivial⟩)
    ·exact gyq rfl (C3 M 0 rfl rfl rfl (gyq rfl (yd rfl (EQ rfl rfl rfl) (yb rfl (k36 M ⟨rfl, rfl, rfl, rfl, rfl, rfl, (by rw [h36]; rfl), trivial⟩)))))
   refine I6 M 13 CL fun M => ol 1 13 rfl rfl rfl M (fun _ M => (Blk.c ((hE.fr M.fr).b5) 0 rfl)) (oc 2 13 rfl rfl M (oc 3 13 rfl rfl M (oc 4 13 rfl rfl M (ol 5 13 rfl rfl rfl M (fun _ M => (M.cell 3 rfl rfl)) (FP (rs := [0, 10]) gkr (by simp) fun iz hiz => ?_)))))
   simp only [List.mem_cons, List.not_mem_nil, or_false] at hiz
   rcases hiz with rfl | rfl
   ·refine K9 (some 25) rfl (wn_none rfl) rfl rfl (AE rfl rfl call87) (HU _) ?_
    rintro _ w25 ⟨g25, rfl, hMw25, hgw25, hfw25⟩
    refine ⟨_, rfl, fun _ => M.step hfw25, ?_⟩
    have M := M.push hfw25 (As.mp g25 DN) hMw25 (L5 hgw25 hMw25.lt)
    refine FP (rs := [6, 10]) gkr (by simp) fun iz hiz => ?_
    simp only [List.mem_cons, List.not_mem_nil, or_false] at hiz
    rcases hiz with rfl | rfl
    ·refine DE (some 31) rfl (wn_none rfl) rfl rfl (aN (DI rfl rfl rfl underlying176 underlying9 BF (M.mp 0 rfl) (E7 _) (GP _))) ?_
     rintro _ _ ⟨rfl, rfl⟩
     refine ⟨fun _ => (M.drop 1), oc 7 13 rfl rfl (M.drop 1) (oc 8 13 rfl rfl (M.drop 1) (oc 9 13 rfl rfl (M.drop 1) (AR 10 (some 7) gkr rfl (wn_none rfl) rfl rfl (fun ρ hρ => BW 174 rfl _ [.int .u8 0, AA 0] BF rfl) ?_)))⟩
     rintro _ w26 ⟨g7, rfl, hg7, hq7, hb7, hfw26⟩
     refine ⟨fun _ => (M.drop 1).step hfw26, ?_⟩
     have M := M.push hfw26 _ hb7 (DF hg7 hq7)
     replace M : Mem w (fun k => k = gx) (As.blk g7 174 [.int .u8 0, AA 0] :: _) w26 := M
     exact fop M 11 0 rfl rfl rfl D2 rfl (·.drop 2) fun w27 M => oc 12 13 rfl rfl (M.drop 2) (fdn (kr5 g7 g25 _ _ M ⟨rfl, rfl, rfl, rfl, rfl, rfl, rfl, trivial⟩))
    ·refine DE (some 7) rfl (wn_none rfl) rfl rfl (fun ρ hρ => BW 174 rfl _ [.int .u8 0, AA 0] BF rfl) ?_
     rintro _ w28 ⟨g7, rfl, hg7, hq7, hb7, hfw28⟩
     refine ⟨fun _ => (M.drop 1).step hfw28, ?_⟩
     have M := M.push hfw28 _ hb7 (DF hg7 hq7)
     replace M : Mem w (fun k => k = gx) (As.blk g7 174 [.int .u8 0, AA 0] :: _) w28 := M
     exact CW 6 gkr rfl (wn_none rfl) rfl rfl (DI rfl rfl rfl underlying176 underlying9 BF (M.mp 1 rfl) (E7 _) (GP _)) (M.drop 2) (oc 7 13 rfl rfl (M.drop 2) (oc 8 13 rfl rfl (M.drop 2) (oc 9 13 rfl rfl (M.drop 2) (fop M 11 0 rfl rfl rfl D2 rfl (·.drop 2) fun w29 M => oc 12 13 rfl rfl (M.drop 2) (fdn (kr5 g7 g25 _ _ M ⟨rfl, rfl, rfl, rfl, rfl, rfl, rfl, trivial⟩))))))
   ·refine DE (some 7) rfl (wn_none rfl) rfl rfl (fun ρ hρ => BW 174 rfl _ [.int .u8 0, AA 0] BF rfl) ?_
    rintro _ w30 ⟨g7, rfl, hg7, hq7, hb7, hfw30⟩
    refine ⟨fun _ => M.step hfw30, ?_⟩
    have M := M.push hfw30 _ hb7 (DF hg7 hq7)
    replace M : Mem w (fun k => k = gx) (As.blk g7 174 [.int .u8 0, AA 0] :: _) w30 := M
    refine C5 0 (some 25) gkr rfl (wn_none rfl) rfl rfl (AE rfl rfl call87) (HU _) ?_
    rintro _ w31 ⟨g25, rfl, hMw31, hgw31, hfw31⟩
    refine ⟨_, rfl, fun _ => (M.drop 1).step hfw31, ?_⟩
    have M := M.push hfw31 (As.mp g25 DN) hMw31 (L5 hgw31 hMw31.lt)
    exact CW 6 gkr rfl (wn_none rfl) rfl rfl (DI rfl rfl rfl underlying176 underlying9 BF (M.mp 0 rfl) (E7 _) (GP _)) (M.drop 2) (oc 7 13 rfl rfl (M.drop 2) (oc 8 13 rfl rfl (M.drop 2) (oc 9 13 rfl rfl (M.drop 2) (fop M 11 1 rfl rfl rfl D2 rfl (·.drop 2) fun w32 M => oc 12 13 rfl rfl (M.drop 2) (fdn (kr5 g7 g25 _ _ (M.pk [1, 0, 2, 3, 4, 5]) ⟨rfl, rfl, rfl, rfl, rfl, rfl, rfl, trivial⟩))))))
  ·have h23p := (odf h23)
   refine sx_exit (qx_then_exit (qx_then_exit (qx_block_hit (qx_seq (srg (DO M 0 rfl rfl underlying112 AI rfl (C2 M 2 rfl rfl AI rfl fun w33 M => gnr (DQ rfl rfl (M.rdBlk 2 rfl rfl) underlying112 rfl AI ?_))))))))
   rw [heq.trans (dA h23p)]
   exact ⟨_, _, rfl, M.ok 1 _ rfl, M.newOf 1 3 rfl rfl AU, M.blk 3 rfl, M.fr⟩
theorem kF (s : List UInt8) (gx c5 c6 c7 c8 c9 c10 : Nat) : ∀ f : Nat, FromOK s gx c5 c6 c7 c8 c9 c10 f (CJ s (f + 1))
 | 0 => ⟨UY s 0, fun line x w hl hb hx hm hE hY => WE (f := 0) (fun _ h => by cases h) line hl x w hb hx hm hE hY⟩
 | f + 1 => ⟨UY s (f + 1), fun line x w hl hb hx hm hE hY => WE (f := f + 1) (fun f' h => by cases h; exact kF s gx c5 c6 c7 c8 c9 c10 f) line hl x w hb hx hm hE hY⟩
end
section
theorem Mem.neBlk {w0 w : World} {S : Nat → Prop} {L : List As} (M : Mem w0 S L w) (i j : Nat) {a b t u : Nat} {cs ds : List Value} (hi : L[i]? = some (As.blk a t cs)) (hj : L[j]? = some (As.blk b u ds)) (h : i ≠ j) : ¬ a = b := fun e =>
 M.apart i j _ _ hi hj h a (by simp [As.blk]) (by simp [As.blk, e])
theorem sY (s : List UInt8) : LxI s lx0 := ⟨Nat.zero_le _, Nat.le_refl _, fun h => absurd rfl h, rfl⟩
theorem aA (s : List UInt8) (x : Lx) : lxM s x ≤ s.length + 1 := by unfold lxM; split <;> omega
theorem WA {s : List UInt8} (h : (256 : Int) < (s.length : Int)) : C8 s = (.zero, 0, 3) := if_pos A0
section
variable {s : List UInt8} (h : ¬ (256 : Int) < ((s.length : Nat) : Int))
include h
theorem UM (h1 : (CJ s 258 1 (B8 s lx0)).2.fin = false) (h2 : ¬ ((CJ s 258 1 (B8 s lx0)).2.fail 4 (CJ s 258 1 (B8 s lx0)).2.tat).e = 0) :
 C8 s = (.zero, ((CJ s 258 1 (B8 s lx0)).2.fail 4 (CJ s 258 1 (B8 s lx0)).2.tat).wh, ((CJ s 258 1 (B8 s lx0)).2.fail 4 (CJ s 258 1 (B8 s lx0)).2.tat).e) := by
 unfold C8
 rw [if_neg A0]
 simp only [h1, if_true, if_neg h2]
theorem UL (h1 : (CJ s 258 1 (B8 s lx0)).2.fin = false) (h2 : ((CJ s 258 1 (B8 s lx0)).2.fail 4 (CJ s 258 1 (B8 s lx0)).2.tat).e = 0) : C8 s = ((CJ s 258 1 (B8 s lx0)).1, 0, 0) := by
 unfold C8
 rw [if_neg A0]
 simp only [h1, if_true, if_pos h2]
theorem WC (h1 : (CJ s 258 1 (B8 s lx0)).2.fin = true) (h2 : ¬ (CJ s 258 1 (B8 s lx0)).2.e = 0) : C8 s = (.zero, (CJ s 258 1 (B8 s lx0)).2.wh, (CJ s 258 1 (B8 s lx0)).2.e) := by
 unfold C8
 rw [if_neg A0]
 simp only [h1, Bool.true_eq_false, if_false, if_neg h2]
theorem WB (h1 : (CJ s 258 1 (B8 s lx0)).2.fin = true) (h2 : (CJ s 258 1 (B8 s lx0)).2.e = 0) : C8 s = ((CJ s 258 1 (B8 s lx0)).1, 0, 0) := by
 unfold C8
 rw [if_neg A0]
 simp only [h1, Bool.true_eq_false, if_false, if_pos h2]
end
theorem Q4 (a0 : List UInt8) : prog.built 168 [(0, str a0)] = some #[str a0, AA 0, .int .u8 0, .int .u8 0, AA 0, .bool false, str [], str [], .slice none 0 0, str [], AA 0, .bool false, AA 0, AA 0] := by kernel_rfl
theorem IX : (prog.info? 172).map (·.size) = some 1 := by kernel_rfl
theorem HB : (prog.info? 169).map (·.size) = some 1 := by kernel_rfl
theorem I4 : (prog.info? 170).map (·.size) = some 1 := by kernel_rfl
theorem PZ : (prog.info? 164).map (·.size) = some 1 := by kernel_rfl
theorem IW : (prog.info? 172).map (·.zero) = some (some (.nilFunc)) := by kernel_rfl
theorem HA : (prog.info? 169).map (·.zero) = some (some (.nilFunc)) := by kernel_rfl
theorem I3 : (prog.info? 170).map (·.zero) = some (some (.nilFunc)) := by kernel_rfl
theorem PY : (prog.info? 164).map (·.zero) = some (some (.pointer none)) := by kernel_rfl
theorem W9 (s : List UInt8) (w : World) (hs : s.length ≤ 4611686018427387904) (hY : Lay0 w) :
 Calls prog 42 #[str s] w fun e w' => ∃ A F, e = .returned (.tuple #[.agg ((C8 s).1.cells A).toArray, AA (((C8 s).2.1 : Nat) : Int), AA (C8 s).2.2]) ∧ (C8 s).1.AtL 112 w' A F ∧ (∀ k ∈ F, w.heap.size ≤ k ∧ k < w'.heap.size) ∧ Fr0 w w' := by
 have hGx : ∀ k, AM k → nGlob ≤ k := fun _ h => h.elim
 refine BL func42 ntmps42 rfl fun M => srg (CO M rfl CR fun g2 w1 hg2 M => yb rfl (AG rfl (sx_seq (AC rfl (ya rfl (EY rfl rfl underlying9) (O8 rfl rfl (sxl_nil ?_)))))))
 refine qx_seq (AF rfl (fun h14 => ?_) (fun h14 => ?_))
 ·have h14p := (odt h14)
  refine srg (ya rfl (AY (parts := []) rfl rfl (I7)) (C2 M 0 rfl rfl AI rfl fun w2 M => AV rfl rfl (gnr (qx_then_ret (L0 rfl rfl (M.rdBlk 0 rfl rfl) underlying112 rfl AI rfl rfl ?_)))))
  rw [WA h14p]
  exact ⟨none, [], rfl, ⟨rfl, rfl⟩, (fun k hk => absurd hk (by simp)), M.fr⟩
 ·have h14p := (odf h14)
  refine sx_skip (qx_seq (AC rfl (ya rfl (AY (parts := [(0, _)]) rfl rfl (Q4 _)) (DD M rfl rfl fun gx w3 hgx M => ?_))))
  have hnx : nGlob ≤ gx := Nat.le_trans hY.size (M.new0 0 rfl gx (by simp [As.blk])).1
  refine E4 M (wn_none rfl) rfl rfl 164 rfl [.pointer none] PY rfl fun g5 w4 hg5 M => gp1 M 0 rfl rfl rfl PZ fun w5 M => EF (B2 M 0 rfl rfl rfl (cl 20 rfl (AE rfl rfl call80) (GF s lx0 _ _ (M.blk 1 rfl) (sY s).at_ A0 (hY.fr M.fr hGx) hnx) ?_))
  rintro _ w6 ⟨rfl, hbw6, hfw6⟩
  have M := M.putB 1 rfl hbw6 hfw6
  refine ⟨_, rfl, EF (E4 M (wn_none rfl) rfl rfl 169 rfl [.nilFunc] HA rfl fun g6 w7 hg6 M => EF (ya rfl (CE (us := []) (vs := [pg g5, pg g6]) rfl rfl rfl) (E4 M (wn_none rfl) rfl rfl 170 rfl [.nilFunc] I3 rfl fun g7 w8 hg7 M => CF (cs' := [.func (.func 81) #[] #[pg g5, pg g6]]) M 0 (wn_none rfl) rfl rfl rfl rfl rfl rfl rfl I4 (BR rfl) rfl fun w9 M => ?_)))⟩
  refine EF (ya rfl (CE (us := []) (vs := [pg g5]) rfl rfl rfl) (E4 M (wn_none rfl) rfl rfl 172 rfl [.nilFunc] IW rfl fun g8 w10 hg8 M => CF (cs' := [.func (.func 82) #[] #[pg g5]]) M 0 (wn_none rfl) rfl rfl rfl rfl rfl rfl rfl IX (BR rfl) rfl fun w11 M => EF (ya rfl (CE (us := []) (vs := [pg g5, pg g6]) rfl rfl rfl) (E4 M (wn_none rfl) rfl rfl 172 rfl [.nilFunc] IW rfl fun g9 w12 hg9 M => ?_))))
  refine CF (cs' := [.func (.func 84) #[] #[pg g5, pg g6]]) M 0 (wn_none rfl) rfl rfl rfl rfl rfl rfl rfl IX (BR rfl) rfl fun w13 M => EF (ya rfl (CE (us := []) (vs := [pg g5, pg g7, pg g9, pg g8]) rfl rfl rfl) (E4 M (wn_none rfl) rfl rfl 169 rfl [.nilFunc] HA rfl fun g10 w14 hg10 M => CF (cs' := [.func (.func 85) #[] #[pg g5, pg g7, pg g9, pg g8]]) M 0 (wn_none rfl) rfl rfl rfl rfl rfl rfl rfl HB (BR rfl) rfl fun w15 M => EF (ya rfl (CE (us := []) (vs := [pg g5, pg g10, pg g6]) rfl rfl rfl) ?_)))
  refine CF (cs' := [.func (.func 86) #[] #[pg g5, pg g10, pg g6]]) M 4 (wn_none rfl) rfl rfl rfl rfl rfl rfl rfl HB (BR rfl) rfl fun w16 M => EF (B2 M 4 rfl rfl rfl (cl 27 rfl (BC rfl rfl rfl call86) ((kF s gx g5 g6 g7 g8 g9 g10 257).call 1 (B8 s lx0) _ AU (M.blk 6 rfl) DX (Nat.le_trans (aA _ _) A0) ⟨M.blk 5 rfl, M.blk 4 rfl, M.blk 3 rfl, M.blk 2 rfl, M.blk 1 rfl, M.blk 0 rfl, ⟨M.neBlk 5 6 rfl rfl AU, M.neBlk 4 6 rfl rfl AU, M.neBlk 3 6 rfl rfl AU, M.neBlk 2 6 rfl rfl AU, M.neBlk 1 6 rfl rfl AU, M.neBlk 0 6 rfl rfl AU⟩, hnx, by omega⟩ (hY.fr M.fr hGx)) ?_))
  rintro _ w17 ⟨A27, F27, rfl, hat27, hnw27, hbw17, hfw17⟩
  have M := M.putPush 6 rfl hbw17 hfw17 (As.xn 112 (CJ s 258 1 (B8 s lx0)).1 A27 F27) hat27 hnw27
  have hI27 := (UY s 257).I 1 (B8 s lx0) DX (Nat.le_trans (aA _ _) A0)
  refine ⟨_, rfl, CO M rfl CR fun g11 w18 hg11 M => C2 M 0 rfl rfl AI rfl fun w19 M => nq (sx_seq (srg (B2 M 7 rfl rfl rfl (AV rfl rfl (yb rfl (B2 M 8 rfl rfl rfl (yb rfl ?_)))))))⟩
  refine nq (AF rfl (fun h33 => ?_) (fun h33 => ?_))
  ·have h33p := (BY h33)
   refine DL 6 CL gkr ?_
   have M := M.drew
   refine GZ M 7 rfl rfl rfl (GZ M 7 rfl rfl rfl (sb rfl (sb rfl (sb rfl (GZ M 8 rfl rfl rfl (CB (cl 40 rfl (AE rfl rfl call83) (EI s ((CJ s 258 1 (B8 s lx0)).2) _ _ _ _ (M.blk 8 rfl)) ?_)))))))
   rintro _ w20 ⟨rfl, hbw20, hfw20⟩
   have M := M.putB 8 rfl hbw20 hfw20
   refine ⟨_, rfl, nq (sx_seq (srg (B2 M 7 rfl rfl rfl (AV rfl rfl (B2 M 8 rfl rfl rfl (FT rfl rfl (nq (AF rfl (fun h45 => ?_) (fun h45 => ?_)))))))))⟩
   ·have h45p := (odf (BY h45))
    refine sx_seq (EG 12 (fun w' => Mem w AM [As.blk g11 112 (Xn.cells ((CJ s 258 1 (B8 s lx0)).1) A27), As.xn 112 ((CJ s 258 1 (B8 s lx0)).1) A27 F27, As.blk g10 169 [.func (.func 85) #[] #[pg g5, pg g7, pg g9, pg g8]], As.blk g9 172 [.func (.func 84) #[] #[pg g5, pg g6]], As.blk g8 172 [.func (.func 82) #[] #[pg g5]], As.blk g7 170 [.func (.func 81) #[] #[pg g5, pg g6]], As.blk g6 169 [.func (.func 86) #[] #[pg g5, pg g10, pg g6]], As.blk g5 164 [pg gx], As.blk gx 168 (Lx.cells s (((CJ s 258 1 (B8 s lx0)).2).fail 4 ((CJ s 258 1 (B8 s lx0)).2.tat)))] w') CL ?_)
    have M := M.drew
    refine oa 0 12 rfl rfl (M.pk [0, 1, 2, 3, 4, 5, 6, 7, 8]) (fun _ M => AY (parts := []) rfl rfl (I7)) (ol 1 12 rfl rfl rfl (M.pk [0, 1, 2, 3, 4, 5, 6, 7, 8]) (fun _ M => (M.cell 7 rfl rfl)) (oc 2 12 rfl rfl (M.pk [0, 1, 2, 3, 4, 5, 6, 7, 8]) (oc 3 12 rfl rfl (M.pk [0, 1, 2, 3, 4, 5, 6, 7, 8]) (ol 4 12 rfl rfl rfl (M.pk [0, 1, 2, 3, 4, 5, 6, 7, 8]) (fun _ M => (M.cell 8 rfl rfl)) (ol 5 12 rfl rfl rfl (M.pk [0, 1, 2, 3, 4, 5, 6, 7, 8]) (fun _ M => (M.cell 7 rfl rfl)) (oc 6 12 rfl rfl (M.pk [0, 1, 2, 3, 4, 5, 6, 7, 8]) (oc 7 12 rfl rfl (M.pk [0, 1, 2, 3, 4, 5, 6, 7, 8]) (ol 8 12 rfl rfl rfl (M.pk [0, 1, 2, 3, 4, 5, 6, 7, 8]) (fun _ M => (M.cell 8 rfl rfl)) (AR 9 none gkr rfl (wn_none rfl) rfl rfl (fun ρ hρ => BH 112 _ _ rfl g2 0 112 _ ([.int .u8 0, .int .u8 0, AA 0, .bool false, str [], str [], .slice none 0 0]) (hρ _ _ rfl) (hρ _ _ rfl) (M.blk 9 rfl) AI (D0 rfl) (BG rfl)) ?_)))))))))
    rintro _ w21 ⟨rfl, hbw21, hfw21⟩
    replace M : Mem w AM (List.set _ 9 (As.blk g2 112 [.int .u8 0, .int .u8 0, AA 0, .bool false, str [], str [], .slice none 0 0])) w21 := M.putB 9 rfl hbw21 hfw21
    refine ⟨fun _ => (M.pk [0, 1, 2, 3, 4, 5, 6, 7, 8]), oc 10 12 rfl rfl (M.pk [0, 1, 2, 3, 4, 5, 6, 7, 8]) (oc 11 12 rfl rfl (M.pk [0, 1, 2, 3, 4, 5, 6, 7, 8]) (fdn (qx_seq (sx_ret (qx_then_ret (L0 rfl rfl (M.rdBlk 9 rfl rfl) underlying112 rfl AI rfl rfl ?_))))))⟩
    rw [UM h14p h33p h45p]
    exact ⟨none, [], rfl, ⟨rfl, rfl⟩, (fun k hk => absurd hk (by simp)), M.fr⟩
   ·have h45p := (odt (BJ h45))
    refine sx_skip (qx_seq (srg (DO M 0 rfl rfl underlying112 AI rfl (C2 M 9 rfl rfl AI rfl fun w22 M => AV rfl rfl (gnr (L0 rfl rfl (M.rdBlk 9 rfl rfl) underlying112 rfl AI rfl rfl ?_))))))
    rw [UL h14p h33p h45p]
    exact ⟨_, _, rfl, M.ok 1 _ rfl, M.new0 1 rfl, M.fr⟩
  ·have h33p := (BJ h33)
   refine sx_skip (qx_seq (sx_seq (srg (B2 M 7 rfl rfl rfl (AV rfl rfl (B2 M 8 rfl rfl rfl (FT rfl rfl (nq (AF rfl (fun h45 => ?_) (fun h45 => ?_))))))))))
   ·have h45p := (odf (BY h45))
    refine sx_seq (EG 12 (fun w' => Mem w AM [As.blk g11 112 (Xn.cells ((CJ s 258 1 (B8 s lx0)).1) A27), As.xn 112 ((CJ s 258 1 (B8 s lx0)).1) A27 F27, As.blk g10 169 [.func (.func 85) #[] #[pg g5, pg g7, pg g9, pg g8]], As.blk g9 172 [.func (.func 84) #[] #[pg g5, pg g6]], As.blk g8 172 [.func (.func 82) #[] #[pg g5]], As.blk g7 170 [.func (.func 81) #[] #[pg g5, pg g6]], As.blk g6 169 [.func (.func 86) #[] #[pg g5, pg g10, pg g6]], As.blk g5 164 [pg gx], As.blk gx 168 (Lx.cells s ((CJ s 258 1 (B8 s lx0)).2))] w') CL ?_)
    have M := M.drew
    refine oa 0 12 rfl rfl (M.pk [0, 1, 2, 3, 4, 5, 6, 7, 8]) (fun _ M => AY (parts := []) rfl rfl (I7)) (ol 1 12 rfl rfl rfl (M.pk [0, 1, 2, 3, 4, 5, 6, 7, 8]) (fun _ M => (M.cell 7 rfl rfl)) (oc 2 12 rfl rfl (M.pk [0, 1, 2, 3, 4, 5, 6, 7, 8]) (oc 3 12 rfl rfl (M.pk [0, 1, 2, 3, 4, 5, 6, 7, 8]) (ol 4 12 rfl rfl rfl (M.pk [0, 1, 2, 3, 4, 5, 6, 7, 8]) (fun _ M => (M.cell 8 rfl rfl)) (ol 5 12 rfl rfl rfl (M.pk [0, 1, 2, 3, 4, 5, 6, 7, 8]) (fun _ M => (M.cell 7 rfl rfl)) (oc 6 12 rfl rfl (M.pk [0, 1, 2, 3, 4, 5, 6, 7, 8]) (oc 7 12 rfl rfl (M.pk [0, 1, 2, 3, 4, 5, 6, 7, 8]) (ol 8 12 rfl rfl rfl (M.pk [0, 1, 2, 3, 4, 5, 6, 7, 8]) (fun _ M => (M.cell 8 rfl rfl)) (AR 9 none gkr rfl (wn_none rfl) rfl rfl (fun ρ hρ => BH 112 _ _ rfl g2 0 112 _ ([.int .u8 0, .int .u8 0, AA 0, .bool false, str [], str [], .slice none 0 0]) (hρ _ _ rfl) (hρ _ _ rfl) (M.blk 9 rfl) AI (D0 rfl) (BG rfl)) ?_)))))))))
    rintro _ w23 ⟨rfl, hbw23, hfw23⟩
    replace M : Mem w AM (List.set _ 9 (As.blk g2 112 [.int .u8 0, .int .u8 0, AA 0, .bool false, str [], str [], .slice none 0 0])) w23 := M.putB 9 rfl hbw23 hfw23
    refine ⟨fun _ => (M.pk [0, 1, 2, 3, 4, 5, 6, 7, 8]), oc 10 12 rfl rfl (M.pk [0, 1, 2, 3, 4, 5, 6, 7, 8]) (oc 11 12 rfl rfl (M.pk [0, 1, 2, 3, 4, 5, 6, 7, 8]) (fdn (qx_seq (sx_ret (qx_then_ret (L0 rfl rfl (M.rdBlk 9 rfl rfl) underlying112 rfl AI rfl rfl ?_))))))⟩
    rw [WC h14p h33p h45p]
    exact ⟨none, [], rfl, ⟨rfl, rfl⟩, (fun k hk => absurd hk (by simp)), M.fr⟩
   ·have h45p := (odt (BJ h45))
    refine sx_skip (qx_seq (srg (DO M 0 rfl rfl underlying112 AI rfl (C2 M 9 rfl rfl AI rfl fun w24 M => AV rfl rfl (gnr (L0 rfl rfl (M.rdBlk 9 rfl rfl) underlying112 rfl AI rfl rfl ?_))))))
    rw [WB h14p h33p h45p]
    exact ⟨_, _, rfl, M.ok 1 _ rfl, M.new0 1 rfl, M.fr⟩
end
section
theorem m3 {e : Env} {w : World} {o : Oper} {t' : Nat} {x y : Operand} {a b : Vl} (ho : o.op = .binOp .neq 100 x y t') (hx : ev e x = some (.agg a.cells.toArray)) (hy : ev e y = some (.agg b.cells.toArray)) : Y prog e o w (.bool (!(a.same b))) := fun ρ h => by
 have h1 : ρ x = .agg a.cells.toArray := h _ _ hx
 have h2 : ρ y = .agg b.cells.toArray := h _ _ hy
 have hg := run_eqGuard_agg (P := prog) w .neq 100 x y a.cells.toArray b.cells.toArray PI
 have hrun : (Op.equalIn 10000 100 (.agg a.cells.toArray) (.agg b.cells.toArray)).run prog w = .ok (a.same b) w := by
  rw [run_equalIn_struct w 9999 100 _ _ NH QT]
  have hl : (prog.fieldsOf 100).toList = (match prog.underlying 100 with | some (.struct fs) => fs.toList | _ => []) := by unfold Program.fieldsOf; rw [underlying100]
  rw [hl, underlying100]
  simp only
  rw [B4 (a := .int .u8 (a.kind.toNat : Int)) (b := .int .u8 (b.kind.toNat : Int)) AU (AZ (isAgg5 w) rfl) (AZ (isAgg5 w) rfl) (run_equalIn_int w 9998 5 _ _ _ _ underlying5),
   B4 (a := AA a.int) (b := AA b.int) AU (AZ (isAgg2 w) rfl) (AZ (isAgg2 w) rfl) (run_equalIn_int w 9998 2 _ _ _ _ underlying2),
   B4 (a := .bool a.bool) (b := .bool b.bool) AU (AZ (isAgg4 w) rfl) (AZ (isAgg4 w) rfl) (run_equalIn_bool' w 9998 4 _ _ underlying4),
   B4 (a := str a.text) (b := str b.text) AU (AZ (isAgg9 w) rfl) (AZ (isAgg9 w) rfl) (run_equalIn_string w 9998 9 _ _ underlying9)]
  have ht : ((⟨a.text.toArray⟩ : ByteArray).toList == (⟨b.text.toArray⟩ : ByteArray).toList) = decide (a.text = b.text) := by
   rw [ByteArray.toList_eq, ByteArray.toList_eq]
   by_cases h : a.text = b.text <;> simp [h]
  rw [ht]
  simp only [Op.eqFields, Sem.run_pure]
  unfold Vl.same
  by_cases h1 : (a.kind.toNat : Int) = b.kind.toNat <;> by_cases h2 : a.int = b.int <;> by_cases h3 : a.bool = b.bool <;> by_cases h4 : a.text = b.text <;> simp [h1, h2, h3, h4]
 unfold execOp
 simp only [ho, h1, h2, Sem.run_bind, hg, Result.andThen_ok, run_neq_struct, hrun]
 rfl
def Xn.sm (k : Nat) : Xn → Prop
 | .zero => True
 | .lit v => v.text.length ≤ k
 | .var s => s.length ≤ k
 | .un _ a => a.sm k
 | .bin _ a b => a.sm k ∧ b.sm k
theorem Xn.sm_vl {k : Nat} : ∀ {n : Xn}, n.sm k → n.vl.text.length ≤ k
 | .zero, _ => Nat.zero_le _
 | .lit _, h => h
 | .var _, _ => Nat.zero_le _
 | .un _ _, _ => Nat.zero_le _
 | .bin _ _ _, _ => Nat.zero_le _
theorem Xn.sm_nm {k : Nat} : ∀ {n : Xn}, n.sm k → n.nm.length ≤ k
 | .zero, _ => Nat.zero_le _
 | .lit _, _ => Nat.zero_le _
 | .var _, h => h
 | .un _ _, _ => Nat.zero_le _
 | .bin _ _ _, _ => Nat.zero_le _
theorem qU {m : Nat} : ∀ (l b : List UInt8) {b' : List UInt8} {n : Nat}, l.length ≤ m → qt b l = some (b', n) → b'.length ≤ b.length + l.length := by
 induction m with
 | zero =>
  intro l b b' n hl h
  cases l with
  | nil => cases h
  | cons c r => simp at hl
 | succ m ih =>
  intro l b b' n hl h
  match l, h with
  | [c], h =>
   by_cases hc : (c.toNat : Int) = 39
   ·rw [show qt b [c] = if (c.toNat : Int) = 39 then some (b, 0) else none from rfl, if_pos hc] at h
    cases h; simp
   ·rw [show qt b [c] = if (c.toNat : Int) = 39 then some (b, 0) else none from rfl, if_neg hc] at h
    cases h
  | c :: d :: r, h =>
   simp only [List.length_cons] at hl
   by_cases hc : (c.toNat : Int) = 39
   ·by_cases hd : (d.toNat : Int) = 39
    ·rw [qt, if_pos hc, if_pos hd] at h
     have := ih r (b ++ [d]) A0 h
     simp only [List.length_append, List.length_cons, List.length_nil] at this ⊢; omega
    ·rw [qt, if_pos hc, if_neg hd] at h
     cases h; simp
   ·rw [qt, if_neg hc] at h
    have := ih (d :: r) (b ++ [c]) (by simp only [List.length_cons]; omega) h
    simp only [List.length_append, List.length_cons, List.length_nil] at this ⊢; omega
theorem fO {k : Nat} {l : List UInt8} {x : Lx} (hl : l.length ≤ k) (h : x.nd.sm k) : (HQ l x).nd.sm k := by
 unfold HQ
 split
 ·rename_i b n hq
  split
  ·have := qU (m := l.tail.length) l.tail [] (Nat.le_refl _) hq
   simp only [List.length_tail, List.length_nil] at this
   show b.length ≤ k
   omega
  ·rw [DT]; exact h
 ·rw [DT]; exact h
theorem nQ {k : Nat} {t : List UInt8} {x : Lx} (h : x.nd.sm k) : (GX t x).nd.sm k := by
 unfold GX
 split
 ·rw [DT]; exact h
 ·split <;> exact Nat.zero_le _
theorem fA {k : Nat} {t : List UInt8} {x : Lx} (hl : t.length ≤ k) (h : x.nd.sm k) : (EE t x).nd.sm k := by
 unfold EE
 repeat' split
 all_goals first
  | exact Nat.zero_le _
  | exact h
  | (rw [DT]; exact h)
  | exact hl
theorem iZ {s r : List UInt8} {x : Lx} (hr : r.length ≤ s.length) : (HW s r x).nd.sm s.length := by
 unfold HW
 split
 ·trivial
 ·split
  ·exact nQ (x := ⟨_, .zero, _, _, _, _, _⟩) trivial
  ·split
   ·exact fA (x := ⟨_, .zero, _, _, _, _, _⟩) (by rw [List.length_take]; omega) trivial
   ·split
    ·exact fO (x := ⟨_, .zero, _, _, _, _, _⟩) hr trivial
    ·split
     ·show (Lx.fail _ _ _).nd.sm s.length
      rw [DT]; trivial
     ·trivial
theorem II {s : List UInt8} {x : Lx} : (B8 s x).nd.sm s.length := iZ (JT _ _)
def FrS (s : List UInt8) (fr : Nat → Lx → Xn × Lx) : Prop := ∀ (line : Nat) (x : Lx), x.nd.sm s.length → (fr line x).1.sm s.length ∧ (fr line x).2.nd.sm s.length
section
variable {s : List UInt8} {fr : Nat → Lx → Xn × Lx}
theorem kM (h : FrS s fr) {line : Nat} {x : Lx} (hx : x.nd.sm s.length) : (DH s fr line x).1.sm s.length ∧ (DH s fr line x).2.nd.sm s.length := by
 unfold DH
 split
 ·exact h _ _ II
 ·split
  ·exact h _ _ II
  ·split
   ·exact ⟨(h _ _ II).1, II⟩
   ·exact ⟨hx, II⟩
theorem aB (h : FrS s fr) (line : Nat) : ∀ (k : Nat) (n : Xn) (x : Lx), n.sm s.length → x.nd.sm s.length → (G4 s fr k line n x).1.sm s.length ∧ (G4 s fr k line n x).2.nd.sm s.length
 | 0, _, _, hn, hx => ⟨hn, hx⟩
 | k + 1, n, x, hn, hx => by
  unfold G4
  split
  ·exact ⟨hn, hx⟩
  ·split
   ·exact ⟨hn, hx⟩
   ·have h1 := h (Q1 x.say + 1) (B8 s x) II
    refine aB h line k _ _ ⟨hn, h1.1⟩ ?_
    unfold KX
    simp only
    split
    ·rw [DT]; exact h1.2
    ·exact h1.2
theorem UX (s : List UInt8) : ∀ f : Nat, FrS s (CJ s f)
 | 0 => fun _ _ hx => ⟨trivial, hx⟩
 | f + 1 => fun line x hx => by
  unfold CJ
  split
  ·exact ⟨trivial, hx⟩
  ·have h1 := kM (UX s f) (line := line) hx
   exact aB (UX s f) line f _ _ h1.1 h1.2
end
theorem cH (s : List UInt8) : (C8 s).1.sm s.length := by
 unfold C8
 split
 ·trivial
 ·simp only
  repeat' split
  all_goals first
   | exact (UX s 258 1 _ II).1
   | trivial
def Xn.kids : Xn → List Xn
 | .un _ a => [a]
 | .bin _ a b => [a, b]
 | _ => []
theorem Xn.ind {C : Xn → Prop} (h : ∀ n : Xn, (∀ a ∈ n.kids, C a) → C n) : ∀ n : Xn, C n
 | .zero => h _ (fun _ hh => by cases hh)
 | .lit _ => h _ (fun _ hh => by cases hh)
 | .var _ => h _ (fun _ hh => by cases hh)
 | .un o a =>
  have ha := Xn.ind h a
  h (.un o a) (fun x hx => by simp only [Xn.kids, List.mem_singleton] at hx; subst hx; exact ha)
 | .bin o a b =>
  have ha := Xn.ind h a
  have hb := Xn.ind h b
  h (.bin o a b) (fun x hx => by
   simp only [Xn.kids, List.mem_cons, List.not_mem_nil, or_false] at hx
   rcases hx with rfl | rfl
   ·exact ha
   ·exact hb)
theorem Xn.sm_kid {k : Nat} : ∀ {n a : Xn}, n.sm k → a ∈ n.kids → a.sm k
 | .un _ _, _, h, hx => by simp only [Xn.kids, List.mem_singleton] at hx; subst hx; exact h
 | .bin _ _ _, _, h, hx => by
  simp only [Xn.kids, List.mem_cons, List.not_mem_nil, or_false] at hx
  rcases hx with rfl | rfl
  ·exact h.1
  ·exact h.2
def ndC (q : Xn × Option Addr) : List Value := q.1.cells q.2
theorem nZ (q : Xn × Option Addr) : (ndC q).length = 7 := rfl
theorem Xn.AtL.kids {t : TypeId} {w : World} : ∀ {n : Xn} {A : Option Addr} {F : List Nat}, n.AtL t w A F → ∃ L : List (Xn × Option Addr), L.map Prod.fst = n.kids ∧ L.length = n.nk ∧ Rd w A (L.length * 7) (AB ndC L) ∧ ∀ q ∈ L, ∃ F', q.1.AtL t w q.2 F'
 | .zero, _, _, h => ⟨[], rfl, rfl, by rw [h.1]; exact Rd.nil, fun _ hh => by cases hh⟩
 | .lit _, _, _, h => ⟨[], rfl, rfl, by rw [h.1]; exact Rd.nil, fun _ hh => by cases hh⟩
 | .var _, _, _, h => ⟨[], rfl, rfl, by rw [h.1]; exact Rd.nil, fun _ hh => by cases hh⟩
 | .un _ a, _, _, ⟨g, B, F', h1, _, h3, h4⟩ => ⟨[(a, B)], rfl, rfl, by rw [h1]; exact Rd.ofBlk h3 rfl, fun q hq => by
  simp only [List.mem_singleton] at hq; subst hq; exact ⟨_, h4⟩⟩
 | .bin _ a b, _, _, ⟨g, B, C, F', F'', h1, _, h3, h4, h5⟩ => ⟨[(a, B), (b, C)], rfl, rfl, by rw [h1]; exact Rd.ofBlk h3 rfl, fun q hq => by
  simp only [List.mem_cons, List.not_mem_nil, or_false] at hq
  rcases hq with rfl | rfl
  ·exact ⟨_, h4⟩
  ·exact ⟨_, h5⟩⟩
theorem Xn.AtL.fr0 {t : TypeId} {w w' : World} {n : Xn} {A : Option Addr} {F : List Nat} (h : n.AtL t w A F) (hf : Fr0 w w') : n.AtL t w' A F := h.keep (fun g _ hg => hf.block g hg (fun hh => hh))
theorem Xn.nk_le (n : Xn) : n.nk ≤ 2 := by cases n <;> simp [Xn.nk]
theorem FG {w w' : World} {L : List (Nat × List Value)} (h : Laid w L) (hf : Fr0 w w') : Laid w' L := fun p hp => by
 obtain ⟨el, fz, h1⟩ := h p hp
 exact ⟨el, fz, (hf.block _ (Array.getElem?_eq_some_iff.1 h1).1 (fun hh => hh)).trans h1⟩
def SE (b : UInt8) : List Value := [.int .u8 (b.toNat : Int)]
theorem TV (b : UInt8) : (SE b).length = 1 := rfl
end
end Go.Proofs.YtaheakjfkpkefaaGreatDoor
